/- The law CpuParts: whatever the input, it answers true. No conditions. (Part CpuPartsP of its proof.) -/
import Derived.Test.YtjheniapmdcelaaCpuPartsF3
set_option linter.unusedVariables false
set_option linter.unusedSimpArgs false
set_option linter.unusedSectionVars false
/- Bits of words, as numbers. -/
namespace Go.Proofs.Abs
open Go
set_option linter.unusedVariables false
set_option linter.unusedSimpArgs false
theorem ofInt_nat (a : Nat) (h : a < 4294967296) : (BitVec.ofInt 32 (a : Int)).toNat = a := by
  rw [BitVec.toNat_ofInt]
  have : ((a : Int) % ((2 ^ 32 : Nat) : Int)) = (a : Int) := Int.emod_eq_of_lt (by omega) (by simp; omega)
  rw [this]; simp
theorem or_nat (a b : Nat) (ha : a < 4294967296) (hb : b < 4294967296) : bitsOf .or .u32 (a : Int) (b : Int) = ((a ||| b : Nat) : Int) := by
  have h : a ||| b < 4294967296 := Nat.or_lt_two_pow (n := 32) ha hb
  show IntKind.u32.wrap ((BitVec.ofInt 32 (a : Int) ||| BitVec.ofInt 32 (b : Int)).toNat : Int) = _
  rw [BitVec.toNat_or, ofInt_nat a ha, ofInt_nat b hb, wrap_u32 _ (by omega) (by omega)]
theorem and_nat (a b : Nat) (ha : a < 4294967296) (hb : b < 4294967296) : bitsOf .and .u32 (a : Int) (b : Int) = ((a &&& b : Nat) : Int) := by
  have h : a &&& b < 4294967296 := Nat.lt_of_le_of_lt Nat.and_le_left ha
  show IntKind.u32.wrap ((BitVec.ofInt 32 (a : Int) &&& BitVec.ofInt 32 (b : Int)).toNat : Int) = _
  rw [BitVec.toNat_and, ofInt_nat a ha, ofInt_nat b hb, wrap_u32 _ (by omega) (by omega)]
theorem or_part (k : Nat) (x b : Int) (h0 : 0 ≤ x) (hb0 : 0 ≤ b) (hb : b < 2 ^ k) (h : x * 2 ^ k + b < 4294967296) : bitsOf .or .u32 (x * 2 ^ k) b = x * 2 ^ k + b := by
  obtain ⟨m, rfl⟩ : ∃ m : Nat, x = m := ⟨x.toNat, by omega⟩
  obtain ⟨n, rfl⟩ : ∃ n : Nat, b = n := ⟨b.toNat, by omega⟩
  have hn : n < 2 ^ k := by exact_mod_cast hb
  have e0 : ((m : Int) * 2 ^ k + n) = ((m * 2 ^ k + n : Nat) : Int) := by simp
  rw [e0] at h
  have hs : m * 2 ^ k + n < 4294967296 := Int.ofNat_lt.1 h
  clear h e0
  have e : ((m : Int) * 2 ^ k) = ((m * 2 ^ k : Nat) : Int) := by simp
  rw [e, or_nat _ _ (by omega) (by omega), ← Nat.shiftLeft_eq, ← Nat.shiftLeft_add_eq_or_of_lt hn]
  simp
theorem and_low (k : Nat) (a : Int) (h0 : 0 ≤ a) (h : a < 4294967296) (hk : k ≤ 31) : bitsOf .and .u32 a ((2 ^ k - 1 : Nat) : Int) = a % 2 ^ k := by
  obtain ⟨n, rfl⟩ : ∃ n : Nat, a = n := ⟨a.toNat, by omega⟩
  have p : 2 ^ k ≤ 2 ^ 31 := Nat.pow_le_pow_right (by decide) hk
  rw [and_nat _ _ (by omega) (by omega), Nat.and_two_pow_sub_one_eq_mod]
  simp
theorem and_16 (a : Int) (h0 : 0 ≤ a) (h : a < 4294967296) : bitsOf .and .u32 a 65535 = a % 65536 := and_low 16 a h0 h (by decide)
theorem and_24 (a : Int) (h0 : 0 ≤ a) (h : a < 4294967296) : bitsOf .and .u32 a 16777215 = a % 16777216 := and_low 24 a h0 h (by decide)
theorem wrap_mod (n : Int) : IntKind.u32.wrap n = n % 4294967296 := by
  simp only [IntKind.wrap, IntKind.bits, IntKind.signed]
  simp
/-- the fields of a word -/
theorem word_of (op a b m c : Int) (h1 : 0 ≤ op) (h2 : op < 128) (h3 : 0 ≤ a) (h4 : a < 16) (h5 : 0 ≤ b) (h6 : b < 16) (h7 : 0 ≤ c) (h8 : c < 16) (h9 : m = 0 ∨ c = 0) :
    bitsOf .or .u32 (bitsOf .or .u32 (bitsOf .or .u32 (bitsOf .or .u32 (IntKind.wrap .u32 ((IntKind.wrap .u32 op) * 2 ^ 24)) (IntKind.wrap .u32 ((IntKind.wrap .u32 a) * 2 ^ 20))) (IntKind.wrap .u32 ((IntKind.wrap .u32 b) * 2 ^ 16))) (bitsOf .and .u32 (IntKind.wrap .u32 m) 65535)) (IntKind.wrap .u32 c)
      = op * 16777216 + a * 1048576 + b * 65536 + m % 65536 + c := by
  rw [wrap_u32 op h1 (by omega), wrap_u32 a h3 (by omega), wrap_u32 b h5 (by omega), wrap_u32 c h7 (by omega), wrap_u32 (op * 2 ^ 24) (by omega) (by omega), wrap_u32 (a * 2 ^ 20) (by omega) (by omega), wrap_u32 (b * 2 ^ 16) (by omega) (by omega),
    and_16 _ (by rw [wrap_mod]; omega) (by rw [wrap_mod]; omega), wrap_mod]
  rw [or_part 24 op (a * 2 ^ 20) h1 (by omega) (by omega) (by omega)]
  have e1 : op * 2 ^ 24 + a * 2 ^ 20 = (op * 16 + a) * 2 ^ 20 := by omega
  rw [e1, or_part 20 (op * 16 + a) (b * 2 ^ 16) (by omega) (by omega) (by omega) (by omega)]
  have e2 : (op * 16 + a) * 2 ^ 20 + b * 2 ^ 16 = (op * 256 + a * 16 + b) * 2 ^ 16 := by omega
  rw [e2, or_part 16 (op * 256 + a * 16 + b) (m % 4294967296 % 65536) (by omega) (by omega) (by omega) (by omega)]
  rcases h9 with rfl | rfl
  · have e3 : (op * 256 + a * 16 + b) * 2 ^ 16 + 0 % 4294967296 % 65536 = (op * 4096 + a * 256 + b * 16 + 0) * 2 ^ 12 := by omega
    have e4 : (op * 4096 + a * 256 + b * 16 + 0) * 2 ^ 12 = ((op * 4096 + a * 256 + b * 16 + 0) * 2 ^ 8) * 2 ^ 4 := by omega
    rw [e3, e4, or_part 4 _ c (by omega) h7 (by omega) (by omega)]
    omega
  · have e3 : (op * 256 + a * 16 + b) * 2 ^ 16 + m % 4294967296 % 65536 = ((op * 256 + a * 16 + b) * 2 ^ 16 + m % 4294967296 % 65536) * 2 ^ 0 := by omega
    rw [e3, or_part 0 _ 0 (by omega) (by omega) (by omega) (by omega)]
    omega
end Go.Proofs.Abs
/- What a word is, reckoned: the document's decoding without its loop. -/
namespace Go.Proofs.Abs
open Go
set_option linter.unusedVariables false
set_option linter.unusedSimpArgs false
theorem power_spec (n : Nat) (hn : n ≤ 32) : ref01_Power (n : Int) = some (2 ^ n) := by
  have go : ∀ (k : Nat) (a j : Int), j + k = n → 0 ≤ j → 0 ≤ a → a * 2 ^ k ≤ 4294967296 → loopO (fun (x : Int × Int) => ref01_Power_L1 (n : Int) x.1 x.2) (a, j) = some (a * 2 ^ k) := by
    intro k
    induction k with
    | zero =>
      intro a j h1 h2 h3 h4
      obtain rfl : j = n := by omega
      refine loopO_out ?_
      show ref01_Power_L1 (n : Int) a n = _
      unfold ref01_Power_L1; rw [if_neg (by simp)]; simp
    | succ k ih =>
      intro a j h1 h2 h3 h4
      have e : a * 2 ^ (k + 1) = a * 2 * 2 ^ k := by rw [Int.pow_succ, Int.mul_comm (2 ^ k) 2, ← Int.mul_assoc]
      have p : (1 : Int) ≤ 2 ^ k := Int.pow_pos (by decide)
      have le : a * 2 ≤ 4294967296 := by
        rw [e] at h4
        have := Int.mul_le_mul_of_nonneg_left p (show 0 ≤ a * 2 by omega)
        omega
      rw [loopO_go (f := fun (x : Int × Int) => ref01_Power_L1 (n : Int) x.1 x.2) (s' := (a * 2, j + 1))]
      · rw [ih (a * 2) (j + 1) (by omega) (by omega) (by omega) (by rw [← e]; exact h4), e]
      · show ref01_Power_L1 (n : Int) a j = _
        unfold ref01_Power_L1
        rw [if_pos (by simp; omega), wrap_i64 _ (by omega) (by omega), wrap_i64 _ (by omega) (by omega)]
  unfold ref01_Power
  have p : (2 : Int) ^ n ≤ 4294967296 := by
    have : (2 : Nat) ^ n ≤ 2 ^ 32 := Nat.pow_le_pow_right (by decide) hn
    have e : ((2 : Int) ^ n) = ((2 ^ n : Nat) : Int) := by simp
    rw [e]; exact Int.ofNat_le.2 this
  have := go n 1 0 (by omega) (by omega) (by omega) (by rw [Int.one_mul]; exact p)
  rw [this]; simp [bind1_some]
noncomputable def sextC (w k : Int) : Option Int := bind1 (remI .i64 (IntKind.wrap .i64 w) (2 ^ k.toNat)) fun v4 =>
  if (decide (v4 ≥ (IntKind.wrap .i64 (Int.tdiv (2 ^ k.toNat) 2)))) = true then (ref01_Sext_j1 (IntKind.wrap .i64 (v4 - 2 ^ k.toNat)))
  else (ref01_Sext_j1 v4)
theorem sext_eq (w : Int) (k : Nat) (h0 : 1 ≤ k) (hk : k ≤ 32) : ref01_Sext w k = sextC w k := by
  unfold ref01_Sext
  rw [if_neg (by simp; omega)]
  have : (if (32 : Int) < k then (32 : Int) else k) = k := by rw [if_neg (by omega)]
  rw [this, power_spec k hk, bind1_some]; rfl
theorem sext16 (w : Int) : ref01_Sext w 16 = sextC w 16 := sext_eq w 16 (by decide) (by decide)
theorem sext24 (w : Int) : ref01_Sext w 24 = sextC w 24 := sext_eq w 24 (by decide) (by decide)
noncomputable def decC_j5 (p0 : Int) (j11 : T_ref02_Instr) : Option (T_ref02_Instr × Int) :=
  bind2 (ref02_Encode j11) fun r12 r13 =>
  if ((r13 != 0) || (r12 != p0)) = true then (some ((T_ref02_Instr.mk 0 0 0 0 0), 21))
  else (some (j11, 0))
noncomputable def decC_j7 (p0 : Int) (j21 : T_ref02_Instr) : Option (T_ref02_Instr × Int) :=
  decC_j5 p0 j21
noncomputable def decC_j8 (p0 : Int) (j23 : T_ref02_Instr) : Option (T_ref02_Instr × Int) :=
  decC_j7 p0 j23
noncomputable def decC_j6 (p0 : Int) (j9 : T_ref02_Instr) (r1 : Int) (j20 : Bool) : Option (T_ref02_Instr × Int) :=
  if j20 = true then (decC_j7 p0 (T_ref02_Instr.mk j9.Op_ j9.A_ j9.B_ j9.C_ (IntKind.wrap .i64 (Int.tmod p0 65536))))
  else (if (r1 == 7) = true then (bind1 (sextC p0 24) fun r25 =>
  decC_j8 p0 (T_ref02_Instr.mk j9.Op_ j9.A_ j9.B_ j9.C_ (IntKind.wrap .i64 r25)))
  else (decC_j8 p0 j9))
noncomputable def decC_j9 (p0 : Int) (j9 : T_ref02_Instr) (r1 : Int) (j28 : Bool) : Option (T_ref02_Instr × Int) :=
  decC_j6 p0 j9 r1 j28
noncomputable def decC_j4 (p0 : Int) (j9 : T_ref02_Instr) (r1 : Int) (j10 : Bool) : Option (T_ref02_Instr × Int) :=
  if j10 = true then (bind1 (sextC p0 16) fun r18 =>
  decC_j5 p0 (T_ref02_Instr.mk j9.Op_ j9.A_ j9.B_ j9.C_ (IntKind.wrap .i64 r18)))
  else (if (r1 == 2) = true then (decC_j6 p0 j9 r1 (r1 == 2))
  else (if (r1 == 4) = true then (decC_j9 p0 j9 r1 (r1 == 4))
  else (decC_j9 p0 j9 r1 (r1 == 8))))
noncomputable def decC_j3 (r1 : Int) (p0 : Int) (j9 : T_ref02_Instr) : Option (T_ref02_Instr × Int) :=
  if (r1 == 1) = true then (decC_j4 p0 j9 r1 (r1 == 1))
  else (decC_j4 p0 j9 r1 (r1 == 3))
noncomputable def decC_j2 (r5 : Bool) (r1 : Int) (p0 : Int) (j8 : T_ref02_Instr) : Option (T_ref02_Instr × Int) :=
  if r5 = true then (decC_j3 r1 p0 (T_ref02_Instr.mk j8.Op_ j8.A_ j8.B_ (IntKind.wrap .i64 (Int.tmod p0 16)) j8.Imm_))
  else (decC_j3 r1 p0 j8)
noncomputable def decC_j1 (r4 : Bool) (r5 : Bool) (r1 : Int) (p0 : Int) (j7 : T_ref02_Instr) : Option (T_ref02_Instr × Int) :=
  if r4 = true then (decC_j2 r5 r1 p0 (T_ref02_Instr.mk j7.Op_ j7.A_ (IntKind.wrap .i64 (Int.tmod (IntKind.wrap .u32 (Int.tdiv p0 65536)) 16)) j7.C_ j7.Imm_))
  else (decC_j2 r5 r1 p0 j7)
noncomputable def decC  (p0 : Int) : Option (T_ref02_Instr × Int) :=
  bind1 (ref02_Shape (IntKind.wrap .i64 (IntKind.wrap .u32 (Int.tdiv p0 16777216)))) fun r1 =>
  bind3 (ref02_has r1) fun r3 r4 r5 =>
  if r3 = true then (decC_j1 r4 r5 r1 p0 (T_ref02_Instr.mk (IntKind.wrap .i64 (IntKind.wrap .u32 (Int.tdiv p0 16777216))) (IntKind.wrap .i64 (Int.tmod (IntKind.wrap .u32 (Int.tdiv p0 1048576)) 16)) 0 0 0))
  else (decC_j1 r4 r5 r1 p0 (T_ref02_Instr.mk (IntKind.wrap .i64 (IntKind.wrap .u32 (Int.tdiv p0 16777216))) 0 0 0 0))
theorem decC_j5_eq (p0 : Int) (j11 : T_ref02_Instr) : ref02_Decode_j5 p0 j11 = decC_j5 p0 j11 := by
  unfold ref02_Decode_j5 decC_j5
  simp only [sext16, sext24]
theorem decC_j7_eq (p0 : Int) (j21 : T_ref02_Instr) : ref02_Decode_j7 p0 j21 = decC_j7 p0 j21 := by
  unfold ref02_Decode_j7 decC_j7
  simp only [sext16, sext24, decC_j5_eq]
theorem decC_j8_eq (p0 : Int) (j23 : T_ref02_Instr) : ref02_Decode_j8 p0 j23 = decC_j8 p0 j23 := by
  unfold ref02_Decode_j8 decC_j8
  simp only [sext16, sext24, decC_j5_eq, decC_j7_eq]
theorem decC_j6_eq (p0 : Int) (j9 : T_ref02_Instr) (r1 : Int) (j20 : Bool) : ref02_Decode_j6 p0 j9 r1 j20 = decC_j6 p0 j9 r1 j20 := by
  unfold ref02_Decode_j6 decC_j6
  simp only [sext16, sext24, decC_j5_eq, decC_j7_eq, decC_j8_eq]
theorem decC_j9_eq (p0 : Int) (j9 : T_ref02_Instr) (r1 : Int) (j28 : Bool) : ref02_Decode_j9 p0 j9 r1 j28 = decC_j9 p0 j9 r1 j28 := by
  unfold ref02_Decode_j9 decC_j9
  simp only [sext16, sext24, decC_j5_eq, decC_j7_eq, decC_j8_eq, decC_j6_eq]
theorem decC_j4_eq (p0 : Int) (j9 : T_ref02_Instr) (r1 : Int) (j10 : Bool) : ref02_Decode_j4 p0 j9 r1 j10 = decC_j4 p0 j9 r1 j10 := by
  unfold ref02_Decode_j4 decC_j4
  simp only [sext16, sext24, decC_j5_eq, decC_j7_eq, decC_j8_eq, decC_j6_eq, decC_j9_eq]
theorem decC_j3_eq (r1 : Int) (p0 : Int) (j9 : T_ref02_Instr) : ref02_Decode_j3 r1 p0 j9 = decC_j3 r1 p0 j9 := by
  unfold ref02_Decode_j3 decC_j3
  simp only [sext16, sext24, decC_j5_eq, decC_j7_eq, decC_j8_eq, decC_j6_eq, decC_j9_eq, decC_j4_eq]
theorem decC_j2_eq (r5 : Bool) (r1 : Int) (p0 : Int) (j8 : T_ref02_Instr) : ref02_Decode_j2 r5 r1 p0 j8 = decC_j2 r5 r1 p0 j8 := by
  unfold ref02_Decode_j2 decC_j2
  simp only [sext16, sext24, decC_j5_eq, decC_j7_eq, decC_j8_eq, decC_j6_eq, decC_j9_eq, decC_j4_eq, decC_j3_eq]
theorem decC_j1_eq (r4 : Bool) (r5 : Bool) (r1 : Int) (p0 : Int) (j7 : T_ref02_Instr) : ref02_Decode_j1 r4 r5 r1 p0 j7 = decC_j1 r4 r5 r1 p0 j7 := by
  unfold ref02_Decode_j1 decC_j1
  simp only [sext16, sext24, decC_j5_eq, decC_j7_eq, decC_j8_eq, decC_j6_eq, decC_j9_eq, decC_j4_eq, decC_j3_eq, decC_j2_eq]
theorem decC_eq (p0 : Int) : ref02_Decode p0 = decC p0 := by
  unfold ref02_Decode decC
  simp only [sext16, sext24, decC_j5_eq, decC_j7_eq, decC_j8_eq, decC_j6_eq, decC_j9_eq, decC_j4_eq, decC_j3_eq, decC_j2_eq, decC_j1_eq]
end Go.Proofs.Abs
/- The memory and the document's, in plain Lean: right layouts, places. -/
namespace Go.Proofs.Abs
open Go
set_option linter.unusedVariables false
set_option linter.unusedSimpArgs false
theorem mem_inj (x y : T_memory_Mem) (h : o_memory_Mem x = o_memory_Mem y) : x = y := by
  obtain ⟨⟨a, b, c, d, e⟩, ws⟩ := x
  obtain ⟨⟨a', b', c', d', e'⟩, ws'⟩ := y
  simp only [o_memory_Mem, List.cons.injEq, Prod.mk.injEq, AV.int.injEq, AV.sl.injEq, true_and, and_true] at h
  obtain ⟨rfl, rfl, rfl, rfl, rfl, h⟩ := h
  rw [map_inj eI_inj _ _ h]
theorem mem_len (x : T_memory_Mem) : (o_memory_Mem x).length = 6 := rfl
def Bad (last e : Int) : Bool := (decide (e < last)) || (((Int.tmod e 4) != 0) || (decide (e > 1048576)))
def RightB (L : T_memory_Layout) : Bool := !(Bad 0 L.Code_ || Bad L.Code_ L.Tables_ || Bad L.Tables_ L.Data_ || Bad L.Data_ L.Heap_ || Bad L.Heap_ L.Stack_)
theorem ga5 (a b c d e : Int) : ga (arrL [a, b, c, d, e] : Arr 5 Int) 0 = some a ∧ ga (arrL [a, b, c, d, e] : Arr 5 Int) 1 = some b ∧ ga (arrL [a, b, c, d, e] : Arr 5 Int) 2 = some c ∧ ga (arrL [a, b, c, d, e] : Arr 5 Int) 3 = some d ∧ ga (arrL [a, b, c, d, e] : Arr 5 Int) 4 = some e := ⟨rfl, rfl, rfl, rfl, rfl⟩
theorem right_spec (L : T_memory_Layout) : memory_Right L = some (RightB L) := by
  obtain ⟨a, b, c, d, e⟩ := L
  obtain ⟨g0, g1, g2, g3, g4⟩ := ga5 a b c d e
  have step : ∀ (last i v : Int), ga (arrL [a, b, c, d, e] : Arr 5 Int) i = some v → 0 ≤ i → i < 5 → memory_Right_L1 (arrL [a, b, c, d, e] : Arr 5 Int) last i = if Bad last v = true then some (Sum.inr (Sum.inr ())) else some (Sum.inl (v, i + 1)) := by
    intro last i v hv h0 h5
    unfold memory_Right_L1
    rw [if_pos (by simpa using h5), hv, bind1_some, wrap_i64 (i + 1) (by omega) (by omega)]
    rfl
  have fin : ∀ last : Int, memory_Right_L1 (arrL [a, b, c, d, e] : Arr 5 Int) last 5 = some (Sum.inr (Sum.inl ())) := fun _ => rfl
  unfold memory_Right memory_Layout_ends RightB
  simp only [bind1_some]
  rw [loopO_eq, step 0 0 a g0 (by omega) (by omega)]
  cases h0 : Bad 0 a with
  | true => simp [bind1_some, sum2_inr]
  | false =>
    simp only [Bool.false_eq_true, if_false, Int.reduceAdd]
    rw [loopO_eq, step a 1 b g1 (by omega) (by omega)]
    cases h1 : Bad a b with
    | true => simp [bind1_some, sum2_inr]
    | false =>
      simp only [Bool.false_eq_true, if_false, Int.reduceAdd]
      rw [loopO_eq, step b 2 c g2 (by omega) (by omega)]
      cases h2 : Bad b c with
      | true => simp [bind1_some, sum2_inr]
      | false =>
        simp only [Bool.false_eq_true, if_false, Int.reduceAdd]
        rw [loopO_eq, step c 3 d g3 (by omega) (by omega)]
        cases h3 : Bad c d with
        | true => simp [bind1_some, sum2_inr]
        | false =>
          simp only [Bool.false_eq_true, if_false, Int.reduceAdd]
          rw [loopO_eq, step d 4 e g4 (by omega) (by omega)]
          cases h4 : Bad d e with
          | true => simp [bind1_some, sum2_inr]
          | false =>
            simp only [Bool.false_eq_true, if_false, Int.reduceAdd]
            rw [loopO_eq]
            have := fin e
            simp [this, bind1_some, sum2_inl]
def EndsA (L : T_memory_Layout) : Arr 5 Int := (arrL [L.Code_, L.Tables_, L.Data_, L.Heap_, L.Stack_] : Arr 5 Int)
theorem ends_spec (L : T_memory_Layout) : law03_Ends L = some (EndsA L) := rfl
theorem rright_spec (L : T_memory_Layout) (h0 : 0 ≤ L.Code_) : ref03_Right (EndsA L) = some (RightB L) := by
  obtain ⟨a, b, c, d, e⟩ := L
  obtain ⟨g0, g1, g2, g3, g4⟩ := ga5 a b c d e
  have first : ref03_Right_L1 (arrL [a, b, c, d, e] : Arr 5 Int) 0 = if Bad 0 a = true then some (Sum.inr (Sum.inr ())) else some (Sum.inl (0 + 1)) := by
    unfold ref03_Right_L1
    rw [if_pos (by decide)]
    simp only [g0, bind1_some, wrap_i64 (0 + 1) (by omega) (by omega)]
    have e1 : (decide (a < 0)) = false := by simpa using h0
    simp only [Bad, e1, Bool.false_or]
    cases h1 : (Int.tmod a 4 != 0) with
    | true => simp [bind1_some]
    | false =>
      cases h2 : decide (a > 1048576) with
      | true => simp [bind1_some, h2]
      | false => simp [bind1_some, h2]
  have step : ∀ (last i v : Int), ga (arrL [a, b, c, d, e] : Arr 5 Int) i = some v → ga (arrL [a, b, c, d, e] : Arr 5 Int) (i - 1) = some last → 0 < i → i < 5 → ref03_Right_L1 (arrL [a, b, c, d, e] : Arr 5 Int) i = if Bad last v = true then some (Sum.inr (Sum.inr ())) else some (Sum.inl (i + 1)) := by
    intro last i v hv hl h0 h5
    unfold ref03_Right_L1
    rw [if_pos (by simpa using h5)]
    simp only [hv, bind1_some, wrap_i64 (i + 1) (by omega) (by omega), wrap_i64 (i - 1) (by omega) (by omega), hl]
    have e1 : (decide (i > 0)) = true := by simpa using h0
    simp only [e1, if_true, Bad]
    rcases bool_cases (Int.tmod v 4 != 0) with h1 | h1 <;> rcases bool_cases (decide (v > 1048576)) with h2 | h2 <;> rcases bool_cases (decide (v < last)) with h3 | h3 <;> simp only [h1, h2, h3, if_true, if_false, bind1_some, Bool.false_eq_true, Bool.or_true, Bool.true_or, Bool.or_false, Bool.false_or]
  have fin : ref03_Right_L1 (arrL [a, b, c, d, e] : Arr 5 Int) 5 = some (Sum.inr (Sum.inl ())) := rfl
  show ref03_Right (arrL [a, b, c, d, e] : Arr 5 Int) = _
  unfold ref03_Right RightB
  rw [loopO_eq, first]
  cases h0 : Bad 0 a with
  | true => simp [bind1_some, sum2_inr]
  | false =>
    simp only [Bool.false_eq_true, if_false, Int.reduceAdd]
    rw [loopO_eq, step a 1 b g1 g0 (by omega) (by omega)]
    cases h1 : Bad a b with
    | true => simp [bind1_some, sum2_inr]
    | false =>
      simp only [Bool.false_eq_true, if_false, Int.reduceAdd]
      rw [loopO_eq, step b 2 c g2 g1 (by omega) (by omega)]
      cases h2 : Bad b c with
      | true => simp [bind1_some, sum2_inr]
      | false =>
        simp only [Bool.false_eq_true, if_false, Int.reduceAdd]
        rw [loopO_eq, step c 3 d g3 g2 (by omega) (by omega)]
        cases h3 : Bad c d with
        | true => simp [bind1_some, sum2_inr]
        | false =>
          simp only [Bool.false_eq_true, if_false, Int.reduceAdd]
          rw [loopO_eq, step d 4 e g4 g3 (by omega) (by omega)]
          cases h4 : Bad d e with
          | true => simp [bind1_some, sum2_inr]
          | false =>
            simp only [Bool.false_eq_true, if_false, Int.reduceAdd]
            rw [loopO_eq]
            have := fin
            simp [this, bind1_some, sum2_inl]
/-- what a right layout is -/
structure Rt5 (L : T_memory_Layout) : Prop where
  c0 : 0 ≤ L.Code_
  c1 : L.Code_ ≤ L.Tables_
  c2 : L.Tables_ ≤ L.Data_
  c3 : L.Data_ ≤ L.Heap_
  c4 : L.Heap_ ≤ L.Stack_
  m : L.Stack_ ≤ 1048576
  d0 : L.Code_ % 4 = 0
  d1 : L.Tables_ % 4 = 0
  d4 : L.Stack_ % 4 = 0
theorem rt5 {L : T_memory_Layout} (h : RightB L = true) : Rt5 L := by
  simp only [RightB, Bad, Bool.not_eq_true', Bool.or_eq_false_iff, decide_eq_false_iff_not, bne_eq_false_iff_eq] at h
  obtain ⟨⟨⟨⟨⟨a1, a2, a3⟩, b1, b2, b3⟩, c1, c2, c3⟩, d1, d2, d3⟩, e1, e2, e3⟩ := h
  rw [tmod_pos (by omega)] at a2 b2 e2
  exact ⟨by omega, by omega, by omega, by omega, by omega, by omega, a2, b2, e2⟩
end Go.Proofs.Abs
/- Every word is decoded alike, by the program and by the document. -/
namespace Go.Proofs.Abs
open Go
set_option linter.unusedVariables false
set_option linter.unusedSimpArgs false
theorem wrap_i32_mod (x : Int) : IntKind.i32.wrap x = (x + 2147483648) % 4294967296 - 2147483648 := by
  simp only [IntKind.wrap, IntKind.bits, IntKind.signed]
  simp
  omega
theorem wrap_i32 (x : Int) (h1 : -2147483648 ≤ x) (h2 : x ≤ 2147483647) : IntKind.i32.wrap x = x := by rw [wrap_i32_mod]; omega
theorem round_all {x : Int} (h0 : -4611686018427387904 < x) (h1 : x < 4611686018427387904) : ref01_Round x = some (IntKind.i32.wrap x) := by
  unfold ref01_Round ref01_Round_j1 ref01_Round_j2
  obtain ⟨y, hy⟩ : ∃ y, y = Int.tmod x 4294967296 := ⟨_, rfl⟩
  have b : -4294967296 < y ∧ y < 4294967296 ∧ (y - x) % 4294967296 = 0 := by
    by_cases c : 0 ≤ x
    · rw [tmod_pos c] at hy; omega
    · have : Int.tmod (-x) 4294967296 = (-x) % 4294967296 := tmod_pos (by omega)
      rw [Int.neg_tmod] at this; omega
  rw [← hy]
  by_cases c : y < 0
  · rw [if_pos (by simpa using c), wrap_i64 _ (by omega) (by omega)]
    by_cases d : y + 4294967296 ≥ 2147483648
    · rw [if_pos (by simpa using d), wrap_i64 _ (by omega) (by omega)]
      congr 1; rw [wrap_i32_mod, wrap_i32_mod]; omega
    · rw [if_neg (by simpa using d)]
      congr 1; rw [wrap_i32_mod, wrap_i32_mod]; omega
  · rw [if_neg (by simpa using c)]
    by_cases d : y ≥ 2147483648
    · rw [if_pos (by simpa using d), wrap_i64 _ (by omega) (by omega)]
      congr 1; rw [wrap_i32_mod, wrap_i32_mod]; omega
    · rw [if_neg (by simpa using d)]
      congr 1; rw [wrap_i32_mod, wrap_i32_mod]; omega
/-- the shape of an operation, and which have it -/
def shOk (n s : Int) : Bool := decide ((s = -1 ∨ s = 0 ∧ n = 1 ∨ s = 1 ∧ (n = 2 ∨ n = 20 ∨ n = 21) ∨ s = 2 ∧ (n = 3 ∨ n = 30 ∨ n = 33) ∨ s = 3 ∧ (n = 5 ∨ n = 18 ∨ n = 19) ∨ s = 4 ∧ (n = 4 ∨ n = 26 ∨ n = 34) ∨ s = 5 ∧ 6 ≤ n ∧ n ≤ 17 ∨ s = 6 ∧ (n = 24 ∨ n = 25 ∨ n = 27 ∨ n = 29 ∨ n = 31 ∨ n = 32) ∨ s = 7 ∧ (n = 22 ∨ n = 23) ∨ s = 8 ∧ n = 28))
theorem shape_all : ((List.range 256).all fun n => match instr_Shape (n : Int) with
    | some s => shOk n s && decide (ref02_Shape (n : Int) = some s)
    | none => false) = true := by kernel_rfl
theorem shape_ex {op : Int} (h0 : 0 ≤ op) (h1 : op < 256) : ∃ s, instr_Shape op = some s ∧ ref02_Shape op = some s ∧ (s = -1 ∨ s = 0 ∧ op = 1 ∨ s = 1 ∧ (op = 2 ∨ op = 20 ∨ op = 21) ∨ s = 2 ∧ (op = 3 ∨ op = 30 ∨ op = 33) ∨ s = 3 ∧ (op = 5 ∨ op = 18 ∨ op = 19) ∨ s = 4 ∧ (op = 4 ∨ op = 26 ∨ op = 34) ∨ s = 5 ∧ 6 ≤ op ∧ op ≤ 17 ∨ s = 6 ∧ (op = 24 ∨ op = 25 ∨ op = 27 ∨ op = 29 ∨ op = 31 ∨ op = 32) ∨ s = 7 ∧ (op = 22 ∨ op = 23) ∨ s = 8 ∧ op = 28) := by
  obtain ⟨n, rfl⟩ : ∃ n : Nat, op = n := ⟨op.toNat, by omega⟩
  have := List.all_eq_true.1 shape_all n (List.mem_range.2 (by omega))
  split at this
  · rename_i s hs
    simp only [Bool.and_eq_true, shOk, decide_eq_true_eq] at this
    exact ⟨s, hs, this.2, this.1⟩
  · cases this
def s16 (w : Int) : Int := (w % 65536 + 32768) % 65536 - 32768
def s24 (w : Int) : Int := (w % 16777216 + 8388608) % 16777216 - 8388608
/-- may a number stand in an instruction of a shape? -/
def imP (sh n : Int) : Prop := (sh = 1 ∨ sh = 3) ∧ -32768 ≤ n ∧ n < 32768 ∨ (sh = 2 ∨ sh = 4 ∨ sh = 8) ∧ 0 ≤ n ∧ n < 65536 ∨ sh = 7 ∧ -8388608 ≤ n ∧ n < 8388608 ∨ (sh = 0 ∨ sh = 5 ∨ sh = 6) ∧ n = 0
/-- are the registers 0 that it has not? -/
def ckP (sh a b c : Int) : Prop := (sh = 0 ∨ sh = 7 ∨ sh = 8) ∧ a = 0 ∧ b = 0 ∧ c = 0 ∨ (sh = 1 ∨ sh = 2 ∨ sh = 6) ∧ b = 0 ∧ c = 0 ∨ (sh = 3 ∨ sh = 4) ∧ c = 0 ∨ sh = 5
instance (sh a b c : Int) : Decidable (ckP sh a b c) := by unfold ckP; infer_instance
def woP (sh op a b c n : Int) : Int := if sh = 7 then op * 16777216 + n % 16777216 else op * 16777216 + a * 1048576 + b * 65536 + n % 65536 + c
theorem fitsN {n : Int} (k : Int) (p : Int) (hk : k = 16 ∧ p = 32768 ∨ k = 24 ∧ p = 8388608) : word_Fits n k = some (decide (-p ≤ n ∧ n < p)) := by
  rcases hk with ⟨rfl, rfl⟩ | ⟨rfl, rfl⟩
  all_goals
    unfold word_Fits
    rw [if_neg (by decide)]
    have s1 : ∀ q : Int, shlI .i64 (-1) (IntKind.wrap .i64 q) = shlI .i64 (-1) (IntKind.wrap .i64 q) := fun _ => rfl
  · have s1 : shlI .i64 (-1) (IntKind.wrap .i64 ((if (40 : Int) < 16 then (40 : Int) else 16) - 1)) = some (-32768) := by kernel_rfl
    have s2 : shlI .i64 1 (IntKind.wrap .i64 ((if (40 : Int) < 16 then (40 : Int) else 16) - 1)) = some 32768 := by kernel_rfl
    rw [s1, bind1_some, s2]
    by_cases c : n ≥ -32768
    · rw [if_pos (by simpa using c), bind1_some, bind1_some]
      by_cases d : n < 32768
      · rw [decide_eq_true d, decide_eq_true ⟨c, d⟩]
      · rw [decide_eq_false d, decide_eq_false (fun h => d h.2)]
    · rw [if_neg (by simpa using c), bind1_some, decide_eq_false (fun h => c h.1)]
  · have s1 : shlI .i64 (-1) (IntKind.wrap .i64 ((if (40 : Int) < 24 then (40 : Int) else 24) - 1)) = some (-8388608) := by kernel_rfl
    have s2 : shlI .i64 1 (IntKind.wrap .i64 ((if (40 : Int) < 24 then (40 : Int) else 24) - 1)) = some 8388608 := by kernel_rfl
    rw [s1, bind1_some, s2]
    by_cases c : n ≥ -8388608
    · rw [if_pos (by simpa using c), bind1_some, bind1_some]
      by_cases d : n < 8388608
      · rw [decide_eq_true d, decide_eq_true ⟨c, d⟩]
      · rw [decide_eq_false d, decide_eq_false (fun h => d h.2)]
    · rw [if_neg (by simpa using c), bind1_some, decide_eq_false (fun h => c h.1)]
theorem within16 {n : Int} : word_Within n 16 = some (decide (0 ≤ n ∧ n < 65536)) := by
  unfold word_Within
  have s2 : shlI .i64 1 (if (40 : Int) < 16 then (40 : Int) else 16) = some 65536 := by kernel_rfl
  rw [if_pos (by decide)]
  by_cases c : n ≥ 0
  · rw [if_pos (by simpa using c), s2, bind1_some, bind1_some]
    by_cases d : n < 65536
    · rw [decide_eq_true d, decide_eq_true ⟨c, d⟩]
    · rw [decide_eq_false d, decide_eq_false (fun h => d h.2)]
  · rw [if_neg (by simpa using c), bind1_some, decide_eq_false (fun h => c h.1)]
theorem reg_ok {a : Int} (h0 : 0 ≤ a) (h1 : a < 16) : instr_reg a = some true := by
  unfold instr_reg; simp [h0, h1]
theorem or_far {op n : Int} (h0 : 0 ≤ op) (h1 : op < 128) : bitsOf .or .u32 (IntKind.wrap .u32 (IntKind.wrap .u32 op * 2 ^ 24)) (bitsOf .and .u32 (IntKind.wrap .u32 n) 16777215) = op * 16777216 + n % 16777216 := by
  rw [wrap_u32 op h0 (by omega), wrap_u32 (op * 2 ^ 24) (by omega) (by omega), and_24 _ (by rw [wrap_mod]; omega) (by rw [wrap_mod]; omega), wrap_mod, or_part 24 op _ h0 (by omega) (by omega) (by omega)]
  omega
/-- what the program encodes -/
theorem penc {op a b c n sh : Int} (hs : instr_Shape op = some sh) (hi : imP sh n) (h0 : 0 ≤ op) (h1 : op < 128) (a0 : 0 ≤ a) (a1 : a < 16) (b0 : 0 ≤ b) (b1 : b < 16) (c0 : 0 ≤ c) (c1 : c < 16) (hc : c = 0 ∨ n = 0) :
    instr_Encode ⟨op, a, b, c, n⟩ = some (if ckP sh a b c then (woP sh op a b c n, 0) else (0, 20)) := by
  have sr : 0 ≤ sh ∧ sh ≤ 8 := by rcases hi with h | h | h | h <;> omega
  have im : instr_imm ⟨op, a, b, c, n⟩ sh = some true := by
    unfold instr_imm instr_imm_j1 instr_imm_j3 instr_imm_j2
    have f16 := fitsN (n := n) 16 32768 (.inl ⟨rfl, rfl⟩)
    have f24 := fitsN (n := n) 24 8388608 (.inr ⟨rfl, rfl⟩)
    rcases hi with ⟨rfl | rfl, h⟩ | ⟨rfl | rfl | rfl, h⟩ | ⟨rfl, h⟩ | ⟨rfl | rfl | rfl, h⟩ <;> simp [f16, f24, within16, h, bind1_some] <;> omega
  have ck : instr_Check ⟨op, a, b, c, n⟩ = some (if ckP sh a b c then 0 else 20) := by
    unfold instr_Check
    rw [hs, bind1_some, if_neg (by simp; omega), reg_ok a0 a1, bind1_some, if_neg (by decide), reg_ok b0 b1, bind1_some, if_neg (by decide), reg_ok c0 c1, bind1_some, if_neg (by decide), im, bind1_some, bind1_some, if_neg (by decide)]
    unfold instr_Check_j7 instr_Check_j1 instr_Check_j6 instr_Check_j3 instr_Check_j5 instr_Check_j4 instr_Check_j2 ckP
    have : sh = 0 ∨ sh = 1 ∨ sh = 2 ∨ sh = 3 ∨ sh = 4 ∨ sh = 5 ∨ sh = 6 ∨ sh = 7 ∨ sh = 8 := by omega
    rcases this with rfl | rfl | rfl | rfl | rfl | rfl | rfl | rfl | rfl <;> simp <;> grind
  unfold instr_Encode
  rw [ck, bind1_some]
  by_cases k : ckP sh a b c
  · rw [if_pos k, if_pos k, if_neg (by decide), hs, bind1_some]
    unfold woP
    by_cases s7 : sh = 7
    · rw [if_pos (by simpa using s7), if_pos s7, or_far h0 h1]
    · rw [if_neg (by simpa using s7), if_neg s7, word_of op a b n c h0 h1 a0 a1 b0 b1 c0 c1 (by rcases hc with h | h <;> simp [h])]
  · rw [if_neg k, if_neg k, if_pos (by decide)]
/-- what the document encodes -/
theorem renc {op a b c n sh : Int} (hs : ref02_Shape op = some sh) (hi : imP sh n) (h0 : 0 ≤ op) (h1 : op < 128) (a0 : 0 ≤ a) (a1 : a < 16) (b0 : 0 ≤ b) (b1 : b < 16) (c0 : 0 ≤ c) (c1 : c < 16) (hk : ckP sh a b c) :
    ref02_Encode ⟨op, a, b, c, n⟩ = some (woP sh op a b c n, 0) := by
  have sr : 0 ≤ sh ∧ sh ≤ 8 := by rcases hi with h | h | h | h <;> omega
  have ck : ref02_Check ⟨op, a, b, c, n⟩ = some 0 := by
    unfold ref02_Check
    rw [hs, bind1_some, if_neg (by simp; omega)]
    unfold ref02_has ref02_Check_j1 ref02_Check_j6 ref02_Check_j3 ref02_Check_j5 ref02_Check_j4 ref02_Check_j2
    unfold ckP at hk
    have : sh = 0 ∨ sh = 1 ∨ sh = 2 ∨ sh = 3 ∨ sh = 4 ∨ sh = 5 ∨ sh = 6 ∨ sh = 7 ∨ sh = 8 := by omega
    unfold imP at hi
    rcases this with rfl | rfl | rfl | rfl | rfl | rfl | rfl | rfl | rfl <;> simp [bind3_some] at hk hi ⊢ <;> grind
  have nb : -8388608 ≤ n ∧ n < 8388608 := by rcases hi with h | h | h | h <;> omega
  unfold ref02_Encode
  rw [ck, bind1_some, if_neg (by decide), hs, bind1_some]
  unfold woP
  by_cases s7 : sh = 7
  · rw [if_pos (by simpa using s7), if_pos s7, wrap_i64 (op * 16777216) (by omega) (by omega), wrap_i64 (n + 16777216) (by omega) (by omega), tmod_pos (by omega), wrap_i64 _ (by omega) (by omega), wrap_u32 _ (by omega) (by omega)]
    congr 2; omega
  · have nb : -32768 ≤ n ∧ n < 65536 := by rcases hi with h | h | h | h <;> omega
    have m : Int.tmod (IntKind.wrap .i64 (n + 65536)) 65536 = n % 65536 := by rw [wrap_i64 _ (by omega) (by omega), tmod_pos (by omega)]; omega
    rw [if_neg (by simpa using s7), if_neg s7]
    simp only [m]
    rw [wrap_i64 (op * 16777216) (by omega) (by omega), wrap_i64 (a * 1048576) (by omega) (by omega), wrap_i64 (b * 65536) (by omega) (by omega), wrap_i64 (op * 16777216 + a * 1048576) (by omega) (by omega), wrap_i64 (op * 16777216 + a * 1048576 + b * 65536) (by omega) (by omega), wrap_i64 (op * 16777216 + a * 1048576 + b * 65536 + n % 65536) (by omega) (by omega), wrap_i64 _ (by omega) (by omega), wrap_u32 _ (by omega) (by omega)]
end Go.Proofs.Abs
/- Every word is decoded alike: the two loops. -/
namespace Go.Proofs.Abs
open Go
set_option linter.unusedVariables false
set_option linter.unusedSimpArgs false
/-- the instruction that a word may be -/
def dvI (w sh : Int) : T_instr_Instr := if sh = 7 then ⟨w / 16777216, 0, 0, 0, s24 w⟩ else
  ⟨w / 16777216, w / 1048576 % 16, w / 65536 % 16, if sh = 5 then w % 16 else 0, if sh = 1 ∨ sh = 3 then s16 w else if sh = 2 ∨ sh = 4 ∨ sh = 8 then w % 65536 else 0⟩
def dvOk (w sh : Int) : Prop := sh ≠ -1 ∧ ckP sh (dvI w sh).A_ (dvI w sh).B_ (dvI w sh).C_ ∧ woP sh (dvI w sh).Op_ (dvI w sh).A_ (dvI w sh).B_ (dvI w sh).C_ (dvI w sh).Imm_ = w
instance (w sh : Int) : Decidable (dvOk w sh) := by unfold dvOk; infer_instance
def shR (sh : Int) : Prop := sh = -1 ∨ sh = 0 ∨ sh = 1 ∨ sh = 2 ∨ sh = 3 ∨ sh = 4 ∨ sh = 5 ∨ sh = 6 ∨ sh = 7 ∨ sh = 8
theorem dvI_im {w sh : Int} (w0 : 0 ≤ w) (h : shR sh) (hn : sh ≠ -1) : imP sh (dvI w sh).Imm_ := by
  unfold imP dvI s16 s24
  rcases h with rfl | rfl | rfl | rfl | rfl | rfl | rfl | rfl | rfl | rfl <;> simp <;> omega
theorem dvI_regs {w sh : Int} (w0 : 0 ≤ w) (w1 : w < 4294967296) : (dvI w sh).Op_ = w / 16777216 ∧ 0 ≤ (dvI w sh).A_ ∧ (dvI w sh).A_ < 16 ∧ 0 ≤ (dvI w sh).B_ ∧ (dvI w sh).B_ < 16 ∧ 0 ≤ (dvI w sh).C_ ∧ (dvI w sh).C_ < 16 ∧ ((dvI w sh).C_ = 0 ∨ (dvI w sh).Imm_ = 0) := by
  unfold dvI
  split
  · refine ⟨rfl, ?_⟩; simp
  · refine ⟨rfl, ?_, ?_, ?_, ?_, ?_, ?_, ?_⟩ <;> simp only [] <;> grind
section
variable {w : Int}
theorem psext (w0 : 0 ≤ w) (w1 : w < 4294967296) : word_Sext w 16 = some (s16 w) ∧ word_Sext w 24 = some (s24 w) := by
  have g : ∀ k : Int, k = 16 ∨ k = 8 → bind1 (shlI .u32 w k) (fun v2 => bind1 (shrI .i32 (IntKind.wrap .i32 v2) k) fun v4 => some v4) = some (if k = 16 then s16 w else s24 w) := by
    rintro k (rfl | rfl)
    · have e1 : shlI .u32 w 16 = some (IntKind.wrap .u32 (w * 65536)) := by unfold shlI; rfl
      have e2 : ∀ v : Int, shrI .i32 v 16 = some (v / 65536) := fun v => by
        unfold shrI
        rw [if_neg (by decide)]
        congr 1
        show Int.fdiv v 65536 = _
        rw [Int.fdiv_eq_ediv_of_nonneg _ (by decide)]
      rw [e1, bind1_some, e2, bind1_some, if_pos rfl, wrap_mod, wrap_i32_mod]
      unfold s16
      congr 1; omega
    · have e1 : shlI .u32 w 8 = some (IntKind.wrap .u32 (w * 256)) := by unfold shlI; rfl
      have e2 : ∀ v : Int, shrI .i32 v 8 = some (v / 256) := fun v => by
        unfold shrI
        rw [if_neg (by decide)]
        congr 1
        show Int.fdiv v 256 = _
        rw [Int.fdiv_eq_ediv_of_nonneg _ (by decide)]
      rw [e1, bind1_some, e2, bind1_some, if_neg (by decide), wrap_mod, wrap_i32_mod]
      unfold s24
      congr 1; omega
  have k1 : IntKind.wrap .i64 (32 - (if (32 : Int) < 16 then 32 else 16)) = 16 := by kernel_rfl
  have k2 : IntKind.wrap .i64 (32 - (if (32 : Int) < 24 then 32 else 24)) = 8 := by kernel_rfl
  constructor
  · unfold word_Sext
    rw [if_neg (by decide), k1]
    exact g 16 (.inl rfl)
  · unfold word_Sext
    rw [if_neg (by decide), k2]
    exact g 8 (.inr rfl)
theorem pdec {sh : Int} (w0 : 0 ≤ w) (w1 : w < 4294967296) (hs : instr_Shape (w / 16777216) = some sh) (hr : shR sh) (h128 : sh ≠ -1 → w / 16777216 < 128) : instr_Decode w = some (if dvOk w sh then (dvI w sh, 0) else (⟨0, 0, 0, 0, 0⟩, 21)) := by
  have fd : ∀ k : Nat, k = 24 ∨ k = 20 ∨ k = 16 → Int.fdiv w (2 ^ k) = w / 2 ^ k := fun k hk => Int.fdiv_eq_ediv_of_nonneg _ (by rcases hk with rfl | rfl | rfl <;> decide)
  have p24 : (2 : Int) ^ 24 = 16777216 := by decide
  have p20 : (2 : Int) ^ 20 = 1048576 := by decide
  have p16 : (2 : Int) ^ 16 = 65536 := by decide
  have and15 : ∀ a : Int, 0 ≤ a → a < 4294967296 → bitsOf .and .u32 a 15 = a % 16 := fun a h0 h1 => and_low 4 a h0 h1 (by decide)
  have e1 : IntKind.wrap .i64 (Int.fdiv w (2 ^ 24)) = w / 16777216 := by rw [fd 24 (by simp), p24, wrap_i64 _ (by omega) (by omega)]
  have e2 : IntKind.wrap .i64 (bitsOf .and .u32 (Int.fdiv w (2 ^ 20)) 15) = w / 1048576 % 16 := by rw [fd 20 (by simp), p20, and15 _ (by omega) (by omega), wrap_i64 _ (by omega) (by omega)]
  have e3 : IntKind.wrap .i64 (bitsOf .and .u32 (Int.fdiv w (2 ^ 16)) 15) = w / 65536 % 16 := by rw [fd 16 (by simp), p16, and15 _ (by omega) (by omega), wrap_i64 _ (by omega) (by omega)]
  have e4 : IntKind.wrap .i64 (bitsOf .and .u32 w 15) = w % 16 := by rw [and15 _ w0 w1, wrap_i64 _ (by omega) (by omega)]
  have e5 : IntKind.wrap .i64 (bitsOf .and .u32 w 65535) = w % 65536 := by rw [and_16 w w0 w1, wrap_i64 _ (by omega) (by omega)]
  obtain ⟨x1, x2⟩ := psext w0 w1
  have e6 : IntKind.wrap .i64 (s16 w) = s16 w := wrap_i64 _ (by unfold s16; omega) (by unfold s16; omega)
  have e7 : IntKind.wrap .i64 (s24 w) = s24 w := wrap_i64 _ (by unfold s24; omega) (by unfold s24; omega)
  have fin : ∀ x, sh ≠ -1 → x = dvI w sh → instr_Decode_j3 w x = some (if dvOk w sh then (dvI w sh, 0) else (⟨0, 0, 0, 0, 0⟩, 21)) := by
    rintro _ hn rfl
    obtain ⟨r0, r1, r2, r3, r4, r5, r6, r7⟩ := dvI_regs (w := w) (sh := sh) w0 w1
    have pe := penc (op := (dvI w sh).Op_) (sh := sh) (by rw [r0]; exact hs) (dvI_im w0 hr hn) (by omega) (by rw [r0]; exact h128 hn) r1 r2 r3 r4 r5 r6 r7
    unfold instr_Decode_j3
    have : dvI w sh = ⟨(dvI w sh).Op_, (dvI w sh).A_, (dvI w sh).B_, (dvI w sh).C_, (dvI w sh).Imm_⟩ := rfl
    rw [← this] at pe
    rw [pe]
    by_cases k : ckP sh (dvI w sh).A_ (dvI w sh).B_ (dvI w sh).C_
    · rw [if_pos k, bind2_some]
      by_cases q : woP sh (dvI w sh).Op_ (dvI w sh).A_ (dvI w sh).B_ (dvI w sh).C_ (dvI w sh).Imm_ = w
      · rw [if_neg (by simp [q]), if_pos ⟨hn, k, q⟩]
      · rw [if_pos (by simp [q]), if_neg (fun h => q h.2.2)]
    · rw [if_neg k, bind2_some, if_pos (by simp), if_neg (fun h => k h.2.1)]
  unfold instr_Decode
  rw [e1, e2, e3, hs, bind1_some]
  rcases hr with rfl | hr
  · rw [if_pos (by decide), if_neg (fun h => h.1 rfl)]
    unfold instr_Decode_j1 instr_Decode_j2 instr_Decode_j8 instr_Decode_j4 instr_Decode_j7 instr_Decode_j6 instr_Decode_j5 instr_Decode_j3
    have : instr_Encode ⟨w / 16777216, w / 1048576 % 16, w / 65536 % 16, 0, 0⟩ = some (0, 21) := by
      unfold instr_Encode instr_Check
      rw [hs, bind1_some]; rfl
    simp [this, bind2_some]
  · rcases hr with rfl | rfl | rfl | rfl | rfl | rfl | rfl | rfl | rfl
    all_goals
      simp only [instr_Decode_j1, instr_Decode_j2, instr_Decode_j8, instr_Decode_j4, instr_Decode_j7, instr_Decode_j6, instr_Decode_j5, x1, x2, bind1_some, e4, e5, e6, e7]
      simp (config := { decide := true }) only [if_true, if_false, reduceIte, Bool.false_eq_true]
      exact fin _ (by decide) (by unfold dvI; simp)
def toI (x : T_instr_Instr) : T_ref02_Instr := ⟨x.Op_, x.A_, x.B_, x.C_, x.Imm_⟩
theorem rsext (w0 : 0 ≤ w) (w1 : w < 4294967296) : sextC w 16 = some (s16 w) ∧ sextC w 24 = some (s24 w) := by
  constructor
  · unfold sextC
    have e : (2 : Int) ^ (16 : Int).toNat = 65536 := by decide
    have r : remI .i64 (IntKind.wrap .i64 w) 65536 = some (w % 65536) := by
      unfold remI
      rw [if_neg (by decide), wrap_i64 w (by omega) (by omega), tmod_pos w0]
    have t : IntKind.wrap .i64 (Int.tdiv 65536 2) = 32768 := by kernel_rfl
    rw [e, r, bind1_some, t]
    unfold ref01_Sext_j1 s16
    by_cases c : w % 65536 ≥ 32768
    · rw [if_pos (by simpa using c), wrap_i64 _ (by omega) (by omega), round_all (by omega) (by omega), bind1_some, wrap_i32 _ (by omega) (by omega)]
      congr 1; omega
    · rw [if_neg (by simpa using c), round_all (by omega) (by omega), bind1_some, wrap_i32 _ (by omega) (by omega)]
      congr 1; omega
  · unfold sextC
    have e : (2 : Int) ^ (24 : Int).toNat = 16777216 := by decide
    have r : remI .i64 (IntKind.wrap .i64 w) 16777216 = some (w % 16777216) := by
      unfold remI
      rw [if_neg (by decide), wrap_i64 w (by omega) (by omega), tmod_pos w0]
    have t : IntKind.wrap .i64 (Int.tdiv 16777216 2) = 8388608 := by kernel_rfl
    rw [e, r, bind1_some, t]
    unfold ref01_Sext_j1 s24
    by_cases c : w % 16777216 ≥ 8388608
    · rw [if_pos (by simpa using c), wrap_i64 _ (by omega) (by omega), round_all (by omega) (by omega), bind1_some, wrap_i32 _ (by omega) (by omega)]
      congr 1; omega
    · rw [if_neg (by simpa using c), round_all (by omega) (by omega), bind1_some, wrap_i32 _ (by omega) (by omega)]
      congr 1; omega
theorem rdec {sh : Int} (w0 : 0 ≤ w) (w1 : w < 4294967296) (hs : ref02_Shape (w / 16777216) = some sh) (hr : shR sh) (h128 : sh ≠ -1 → w / 16777216 < 128) : ref02_Decode w = some (if dvOk w sh then (toI (dvI w sh), 0) else (⟨0, 0, 0, 0, 0⟩, 21)) := by
  have e1 : IntKind.wrap .i64 (IntKind.wrap .u32 (Int.tdiv w 16777216)) = w / 16777216 := by rw [tdiv_pos w0, wrap_u32 _ (by omega) (by omega), wrap_i64 _ (by omega) (by omega)]
  have e2 : IntKind.wrap .i64 (Int.tmod (IntKind.wrap .u32 (Int.tdiv w 1048576)) 16) = w / 1048576 % 16 := by rw [tdiv_pos w0, wrap_u32 _ (by omega) (by omega), tmod_pos (by omega), wrap_i64 _ (by omega) (by omega)]
  have e3 : IntKind.wrap .i64 (Int.tmod (IntKind.wrap .u32 (Int.tdiv w 65536)) 16) = w / 65536 % 16 := by rw [tdiv_pos w0, wrap_u32 _ (by omega) (by omega), tmod_pos (by omega), wrap_i64 _ (by omega) (by omega)]
  have e4 : IntKind.wrap .i64 (Int.tmod w 16) = w % 16 := by rw [tmod_pos w0, wrap_i64 _ (by omega) (by omega)]
  have e5 : IntKind.wrap .i64 (Int.tmod w 65536) = w % 65536 := by rw [tmod_pos w0, wrap_i64 _ (by omega) (by omega)]
  obtain ⟨x1, x2⟩ := rsext w0 w1
  have e6 : IntKind.wrap .i64 (s16 w) = s16 w := wrap_i64 _ (by unfold s16; omega) (by unfold s16; omega)
  have e7 : IntKind.wrap .i64 (s24 w) = s24 w := wrap_i64 _ (by unfold s24; omega) (by unfold s24; omega)
  have fin : ∀ a b c n : Int, 0 ≤ a → a < 16 → 0 ≤ b → b < 16 → 0 ≤ c → c < 16 → imP sh n → ckP sh a b c → (dvOk w sh ↔ woP sh (w / 16777216) a b c n = w) → (woP sh (w / 16777216) a b c n = w → toI (dvI w sh) = ⟨w / 16777216, a, b, c, n⟩) → sh ≠ -1 →
      decC_j5 w ⟨w / 16777216, a, b, c, n⟩ = some (if dvOk w sh then (toI (dvI w sh), 0) else (⟨0, 0, 0, 0, 0⟩, 21)) := fun a b c n a0 a1 b0 b1 c0 c1 hi hk h1 h2 hn => by
    unfold decC_j5
    rw [renc hs hi (by omega) (h128 hn) a0 a1 b0 b1 c0 c1 hk, bind2_some]
    by_cases q : woP sh (w / 16777216) a b c n = w
    · rw [if_neg (by simp [q]), if_pos (h1.2 q), h2 q]
    · rw [if_pos (by simp [q]), if_neg (fun h => q (h1.1 h))]
  rw [decC_eq]
  unfold decC
  rw [e1, e2, hs, bind1_some]
  unfold ref02_has
  rw [bind3_some]
  rcases hr with rfl | hr
  · rw [if_neg (fun h => h.1 rfl : ¬ dvOk w (-1))]
    have : ref02_Encode ⟨w / 16777216, 0, 0, 0, 0⟩ = some (0, 21) := by
      unfold ref02_Encode ref02_Check
      rw [hs, bind1_some]; rfl
    simp [decC_j1, decC_j2, decC_j3, decC_j4, decC_j9, decC_j6, decC_j8, decC_j7, decC_j5, this, bind2_some]
  · rcases hr with rfl | rfl | rfl | rfl | rfl | rfl | rfl | rfl | rfl
    all_goals
      simp only [decC_j1, decC_j2, decC_j3, decC_j4, decC_j9, decC_j6, decC_j8, decC_j7, x1, x2, bind1_some, e3, e4, e5, e6, e7]
      simp (config := { decide := true }) only [if_true, if_false, reduceIte, Bool.false_eq_true]
      refine fin _ _ _ _ (by omega) (by omega) (by omega) (by omega) (by omega) (by omega) ?_ ?_ ?_ ?_ (by decide)
      · simp [imP, s16, s24] <;> omega
      · unfold ckP; simp
      · unfold dvOk ckP woP dvI s16 s24; simp <;> omega
      · unfold woP toI dvI s16 s24; simp <;> omega
end
end Go.Proofs.Abs
/- The program's machine and the document's, side by side: what they are built of. -/
namespace Go.Proofs.Abs
open Go
set_option linter.unusedVariables false
set_option linter.unusedSimpArgs false
theorem room_big : 1048576 ≤ roomBytes := Nat.le_of_ble_eq_true (by kernel_rfl)
theorem app_some {α : Type} {zb : Nat} {xs ys : List α} (h : (xs.length + ys.length) * zb ≤ 1048576) : app zb xs ys = some (xs ++ ys) := by
  unfold app; rw [if_pos (Nat.le_trans h room_big)]
/-! registers -/
def Arr.put {n : Nat} (a : Arr n Int) (j : Nat) (v : Int) : Arr n Int := ⟨a.l.set j v, by rw [List.length_set, a.h]⟩
theorem ga_g {n : Nat} {a : Arr n Int} {j : Int} (h0 : 0 ≤ j) (h : j < n) : ga a j = some (a.g j.toNat) := by
  unfold ga Arr.g
  have hl := a.h
  rw [if_pos (by omega), List.getElem?_eq_getElem (by omega)]; rfl
theorem sa_put {n : Nat} {a : Arr n Int} {j : Int} {v : Int} (h0 : 0 ≤ j) (h : j < n) : sa a j v = some (a.put j.toNat v) := by
  unfold sa
  rw [if_pos ⟨by omega, by omega⟩]
  rfl
theorem put_g {n : Nat} {a : Arr n Int} {j k : Nat} {v : Int} (h : j < n) : (a.put j v).g k = if j = k then v else a.g k := by
  unfold Arr.g Arr.put
  have hl := a.h
  by_cases c : j = k
  · subst c; simp [hl, h]
  · simp [c]
theorem put_put {n : Nat} {a : Arr n Int} {j : Nat} {u v : Int} : (a.put j u).put j v = a.put j v := by
  unfold Arr.put; congr 1; simp
theorem arr16_put (R : Arr 16 Int) (v : Int) : (arrL [R.g 0, R.g 1, R.g 2, R.g 3, R.g 4, R.g 5, R.g 6, R.g 7, R.g 8, R.g 9, R.g 10, R.g 11, R.g 12, R.g 13, v, R.g 15] : Arr 16 Int) = R.put 14 v := by
  obtain ⟨l, h⟩ := R
  unfold Arr.put Arr.g arrL
  congr 1
  match l, h with
  | [a0, a1, a2, a3, a4, a5, a6, a7, a8, a9, a10, a11, a12, a13, a14, a15], _ => rfl
theorem arr_ext16 {A B : Arr 16 Int} (h : ∀ q, q < 16 → A.g q = B.g q) : A = B := by
  obtain ⟨a, ha⟩ := A; obtain ⟨b, hb⟩ := B
  have : a = b := by
    apply List.ext_getElem (by omega)
    intro q h1 h2
    have := h q (by omega)
    unfold Arr.g at this
    simpa [h1, h2] using this
  subst this; rfl
/-! the document's memory -/
theorem with_loop (p2 : List Int) : ∀ (n : Nat) (p1 : Int) (a5 : List Int) (a6 : Int), 0 ≤ a6 → a6 + n = p2.length → 0 ≤ p1 → p1 + p2.length ≤ a5.length → (a5.length : Int) ≤ 4294967295 →
    loopO (fun (x : List Int × Int) => ref03_with_L1 p2 p1 x.1 x.2) (a5, a6) = some (setAt a5 (p1 + a6).toNat (p2.drop a6.toNat))
  | 0, p1, a5, a6, h0, h1, h2, h3, h4 => by
    rw [loopO_out (r := a5)]
    · have : p2.drop a6.toNat = [] := List.drop_eq_nil_of_le (by omega)
      rw [this]
      simp [setAt]
    · show ref03_with_L1 p2 p1 a5 a6 = _
      unfold ref03_with_L1
      have c : (decide (a6 < (p2.length : Int))) = false := by simp; omega
      simp [c]
  | n + 1, p1, a5, a6, h0, h1, h2, h3, h4 => by
    have hlt : a6 < p2.length := by omega
    have e : ref03_with_L1 p2 p1 a5 a6 = some (.inl (a5.set (p1 + a6).toNat (p2[a6.toNat]'(by omega)), a6 + 1)) := by
      unfold ref03_with_L1
      have c : (decide (a6 < (p2.length : Int))) = true := by simp; omega
      rw [if_pos c, gi_some h0 hlt, bind1_some, wrap_i64 (p1 + a6) (by omega) (by omega), gi_some (by omega) (by omega), bind1_some, si_some (by omega) (by omega), bind1_some, wrap_i64 (a6 + 1) (by omega) (by omega)]
    rw [loopO_go (s' := (a5.set (p1 + a6).toNat (p2[a6.toNat]'(by omega)), a6 + 1)) e]
    rw [with_loop p2 n p1 _ (a6 + 1) (by omega) (by omega) h2 (by simpa using h3) (by simpa using h4)]
    congr 1
    have e1 : (p1 + (a6 + 1)).toNat = (p1 + a6).toNat + 1 := by omega
    have e2 : (a6 + 1).toNat = a6.toNat + 1 := by omega
    have e3 : p2.drop a6.toNat = p2[a6.toNat]'(by omega) :: p2.drop (a6.toNat + 1) := by rw [List.drop_eq_getElem_cons]
    rw [e1, e2, e3]
    apply List.ext_getElem?
    intro j
    simp only [setAt, List.getElem?_append, List.length_append, List.length_take, List.getElem?_take, List.getElem?_drop, List.length_drop, List.length_set, List.getElem?_set, List.length_cons, List.getElem?_cons]
    grind
theorem with_spec {ws : List Int} {E : Arr 5 Int} (p1 : Int) (p2 : List Int) (h0 : 0 ≤ p1) (h1 : p1 + p2.length ≤ ws.length) (h2 : ws.length ≤ 262144) : ref03_with ⟨E, ws⟩ p1 p2 = some ⟨E, setAt ws p1.toNat p2⟩ := by
  unfold ref03_with
  have hm : mks 4 (ws.length : Int) (ws.length : Int) (0 : Int) = some (List.replicate ws.length 0) := by
    unfold mks
    rw [if_pos ⟨by omega, by omega, by have := room_big; omega, by omega⟩]
    simp
  simp only [hm, bind1_some, bnd_def]
  have hc : cpy (List.replicate ws.length (0 : Int)) 0 ws = ws := by simp [cpy, setAt]
  rw [hc, with_loop p2 p2.length p1 ws 0 (by omega) (by omega) h0 h1 (by omega), bind1_some]
  simp
/-! both machines -/
def toR (c : T_cpu_Cpu) : T_ref04_Cpu := ⟨c.R_, c.PC_, c.EPC_, c.Cause_, c.State_, c.Why_, c.Steps_, c.Taken_, c.Out_, c.setup_.Entry_, c.setup_.Vector_, c.setup_.Guard_, c.setup_.Limit_, c.input_⟩
def endsM (l : T_memory_Layout) : Arr 5 Int := arrL [l.Code_, l.Tables_, l.Data_, l.Heap_, l.Stack_]
def toM (m : T_memory_Mem) : T_ref03_Mem := ⟨endsM m.layout_, m.words_⟩
def u32 (x : Int) : Prop := 0 ≤ x ∧ x < 4294967296
structure Inv (c : T_cpu_Cpu) (m : T_memory_Mem) : Prop where
  regs : ∀ q, q < 16 → u32 (c.R_.g q)
  pc : u32 c.PC_
  epc : u32 c.EPC_
  ca : u32 c.Cause_
  tk : 0 ≤ c.Taken_ ∧ c.Taken_ ≤ c.input_.length
  il : c.input_.length ≤ 100
  st : u32 c.setup_.Vector_ ∧ u32 c.setup_.Guard_ ∧ u32 c.setup_.Limit_
  ws : ∀ x, x ∈ m.words_ → u32 x
  wl : (m.words_.length : Int) * 4 = m.layout_.Stack_
  sk : m.layout_.Stack_ ≤ 4096
structure At (H : Heap) (i k : Nat) (c : T_cpu_Cpu) (m : T_memory_Mem) : Prop where
  c : get_cpu_Cpu H i 0 = some c
  m : get_memory_Mem H k 0 = some m
  ne : i ≠ k
def Fr (H H' : Heap) (i k : Nat) : Prop := ∀ j, j ≠ i → j ≠ k → ∀ o n, hget H' j o n = hget H j o n
theorem Fr.refl (H : Heap) (i k : Nat) : Fr H H i k := fun _ _ _ _ _ => rfl
theorem Fr.trans {H H1 H2 : Heap} {i k : Nat} (a : Fr H H1 i k) (b : Fr H1 H2 i k) : Fr H H2 i k := fun j h1 h2 o n => (b j h1 h2 o n).trans (a j h1 h2 o n)
theorem ev_inj (x y : T_api_Event) (h : e_api_Event x = e_api_Event y) : x = y := by
  cases x; cases y; simpa [e_api_Event] using h
theorem cpu_inj (x y : T_cpu_Cpu) (h : o_cpu_Cpu x = o_cpu_Cpu y) : x = y := by
  obtain ⟨R, a, b, d, e, f, g, k, l, ⟨s1, s2, s3, s4⟩, n⟩ := x
  obtain ⟨R', a', b', d', e', f', g', k', l', ⟨s1', s2', s3', s4'⟩, n'⟩ := y
  simp only [o_cpu_Cpu, List.cons.injEq, Prod.mk.injEq, AV.sl.injEq, AV.int.injEq, true_and, and_true] at h
  obtain ⟨h0, h1, h2, h3, h4, h5, h6, h7, h8, h9, h10, h11, h12, h13, h14, h15, rfl, rfl, rfl, rfl, rfl, rfl, rfl, ho, rfl, rfl, rfl, rfl, hi⟩ := h
  have hR : R = R' := arr_ext16 fun q hq => by
    match q, hq with
    | 0, _ => exact h0
    | 1, _ => exact h1
    | 2, _ => exact h2
    | 3, _ => exact h3
    | 4, _ => exact h4
    | 5, _ => exact h5
    | 6, _ => exact h6
    | 7, _ => exact h7
    | 8, _ => exact h8
    | 9, _ => exact h9
    | 10, _ => exact h10
    | 11, _ => exact h11
    | 12, _ => exact h12
    | 13, _ => exact h13
    | 14, _ => exact h14
    | 15, _ => exact h15
    | n + 16, h => exact absurd h (by omega)
  rw [hR, map_inj ev_inj _ _ ho, map_inj eI_inj _ _ hi]
theorem cpu_len (x : T_cpu_Cpu) : (o_cpu_Cpu x).length = 29 := rfl
section
variable {H : Heap} {i k : Nat} {c : T_cpu_Cpu} {m : T_memory_Mem}
theorem At.setC (A : At H i k c m) (c' : T_cpu_Cpu) : At (set_cpu_Cpu H i 0 c') i k c' m ∧ Fr H (set_cpu_Cpu H i 0 c') i k :=
  ⟨⟨hgT_set cpu_inj cpu_len A.c _, hgT_other mem_inj A.ne A.m, A.ne⟩, fun j h1 h2 o n => hget_other (Ne.symm h1)⟩
theorem At.setM (A : At H i k c m) (m' : T_memory_Mem) : At (set_memory_Mem H k 0 m') i k c m' ∧ Fr H (set_memory_Mem H k 0 m') i k :=
  ⟨⟨hgT_other cpu_inj (Ne.symm A.ne) A.c, hgT_set mem_inj mem_len A.m _, A.ne⟩, fun j h1 h2 o n => hget_other (Ne.symm h2)⟩
/-- what a call comes to -/
def To (f : Heap → Option Heap) (i k : Nat) (c : T_cpu_Cpu) (m : T_memory_Mem) (c' : T_cpu_Cpu) (m' : T_memory_Mem) : Prop := ∀ H, At H i k c m → ∃ H', f H = some H' ∧ At H' i k c' m' ∧ Fr H H' i k
def cNext (c : T_cpu_Cpu) : T_cpu_Cpu := ⟨c.R_, IntKind.wrap .u32 (c.PC_ + 4), c.EPC_, c.Cause_, c.State_, c.Why_, c.Steps_, c.Taken_, c.Out_, c.setup_, c.input_⟩
def cSet (c : T_cpu_Cpu) (a : Int) (w : Int) : T_cpu_Cpu := ⟨c.R_.put a.toNat w, IntKind.wrap .u32 (c.PC_ + 4), c.EPC_, c.Cause_, c.State_, c.Why_, c.Steps_, c.Taken_, c.Out_, c.setup_, c.input_⟩
def cFault (c : T_cpu_Cpu) (e : Int) : T_cpu_Cpu := ⟨c.R_, c.PC_, c.EPC_, c.Cause_, 2, e, c.Steps_, c.Taken_, c.Out_, c.setup_, c.input_⟩
def cTrap (c : T_cpu_Cpu) (w : Int) : T_cpu_Cpu := if c.PC_ < c.setup_.Guard_ then cFault c 111 else ⟨c.R_, c.setup_.Vector_, c.PC_, w, c.State_, c.Why_, c.Steps_, c.Taken_, c.Out_, c.setup_, c.input_⟩
def cJump (c : T_cpu_Cpu) (n : Int) : T_cpu_Cpu := ⟨c.R_, IntKind.wrap .u32 (c.PC_ + IntKind.wrap .u32 (4 + IntKind.wrap .u32 (IntKind.wrap .i64 (4 * n)))), c.EPC_, c.Cause_, c.State_, c.Why_, c.Steps_, c.Taken_, c.Out_, c.setup_, c.input_⟩
theorem u32_wrap (x : Int) : u32 (IntKind.wrap .u32 x) := by unfold u32; rw [wrap_mod]; omega
theorem Inv.next (I : Inv c m) : Inv (cNext c) m := ⟨I.regs, u32_wrap _, I.epc, I.ca, I.tk, I.il, I.st, I.ws, I.wl, I.sk⟩
theorem regs_put {R : Arr 16 Int} {a : Nat} {w : Int} (h : ∀ q, q < 16 → u32 (R.g q)) (ha : a < 16) (hw : u32 w) : ∀ q, q < 16 → u32 ((R.put a w).g q) := fun q hq => by
  rw [put_g ha]; split
  · exact hw
  · exact h q hq
theorem Inv.set (I : Inv c m) {a w : Int} (ha : 0 ≤ a ∧ a < 16) (hw : u32 w) : Inv (cSet c a w) m := ⟨regs_put I.regs (by omega) hw, u32_wrap _, I.epc, I.ca, I.tk, I.il, I.st, I.ws, I.wl, I.sk⟩
theorem Inv.fault (I : Inv c m) (e : Int) : Inv (cFault c e) m := ⟨I.regs, I.pc, I.epc, I.ca, I.tk, I.il, I.st, I.ws, I.wl, I.sk⟩
theorem Inv.trap (I : Inv c m) {w : Int} (hw : u32 w) : Inv (cTrap c w) m := by
  unfold cTrap; split
  · exact I.fault _
  · exact ⟨I.regs, I.st.1, I.pc, hw, I.tk, I.il, I.st, I.ws, I.wl, I.sk⟩
theorem Inv.jump (I : Inv c m) (n : Int) : Inv (cJump c n) m := ⟨I.regs, u32_wrap _, I.epc, I.ca, I.tk, I.il, I.st, I.ws, I.wl, I.sk⟩
theorem fault_to (e : Int) : To (fun H => cpu_Cpu_fault H (.at i 0) e) i k c m (cFault c e) m := fun H A => by
  refine ⟨_, ?_, A.setC (cFault c e)⟩
  show cpu_Cpu_fault H (.at i 0) e = _
  unfold cpu_Cpu_fault
  rw [pbnd_at, A.c, bind1_some, bnd_def]; rfl
theorem trap_to (w : Int) : To (fun H => cpu_Cpu_trap H (.at i 0) w) i k c m (cTrap c w) m := fun H A => by
  show ∃ H', cpu_Cpu_trap H (.at i 0) w = _ ∧ _
  unfold cpu_Cpu_trap cTrap
  rw [pbnd_at, A.c, bind1_some]
  by_cases g : c.PC_ < c.setup_.Guard_
  · obtain ⟨H1, e1, A1⟩ := fault_to 111 H A
    have e1 : cpu_Cpu_fault H (.at i 0) 111 = some H1 := e1
    rw [if_pos (by simpa using g), if_pos g, e1]
    exact ⟨H1, rfl, A1⟩
  · rw [if_neg (by simpa using g), if_neg g, bnd_def]
    exact ⟨_, rfl, A.setC _⟩
theorem set_to {a : Int} (ha : 0 ≤ a ∧ a < 16) (w : Int) : To (fun H => cpu_Cpu_set H (.at i 0) a w) i k c m (cSet c a w) m := fun H A => by
  obtain ⟨A1, f1⟩ := A.setC ⟨c.R_.put a.toNat w, c.PC_, c.EPC_, c.Cause_, c.State_, c.Why_, c.Steps_, c.Taken_, c.Out_, c.setup_, c.input_⟩
  obtain ⟨A2, f2⟩ := A1.setC (cSet c a w)
  refine ⟨_, ?_, A2, f1.trans f2⟩
  show cpu_Cpu_set H (.at i 0) a w = _
  unfold cpu_Cpu_set
  rw [pbnd_at, A.c, bind1_some, ga_g ha.1 (by omega), bind1_some, sa_put ha.1 (by omega), bind1_some, bnd_def, bnd_def]; rfl
theorem jump_to (n : Int) : To (fun H => cpu_Cpu_jump H (.at i 0) n) i k c m (cJump c n) m := fun H A => by
  refine ⟨_, ?_, A.setC (cJump c n)⟩
  show cpu_Cpu_jump H (.at i 0) n = _
  unfold cpu_Cpu_jump
  rw [pbnd_at, A.c, bind1_some, bnd_def]; rfl
theorem check_to (b : Bool) (w : Int) : To (fun H => cpu_Cpu_check H (.at i 0) b w) i k c m (if b = true then cNext c else cTrap c w) m := fun H A => by
  show ∃ H', cpu_Cpu_check H (.at i 0) b w = _ ∧ _
  unfold cpu_Cpu_check
  cases b with
  | true =>
    rw [if_pos rfl, if_pos rfl, pbnd_at, A.c, bind1_some, bnd_def]
    exact ⟨_, rfl, A.setC _⟩
  | false =>
    obtain ⟨H1, e1, A1⟩ := trap_to w H A
    have e1 : cpu_Cpu_trap H (.at i 0) w = some H1 := e1
    rw [if_neg (by simp), if_neg (by simp), e1]
    exact ⟨H1, rfl, A1⟩
/-! the document's, the same -/
theorem r_fault (e : Int) : ref04_fault (toR c) e = some (toR (cFault c e)) := rfl
theorem r_trap (w : Int) : ref04_trap (toR c) w = some (toR (cTrap c w)) := by
  unfold ref04_trap cTrap
  by_cases g : c.PC_ < c.setup_.Guard_
  · rw [if_pos (show decide ((toR c).PC_ < (toR c).Guard_) = true by show decide (c.PC_ < c.setup_.Guard_) = true; simpa using g), if_pos g, r_fault, bind1_some]
  · rw [if_neg (show ¬ decide ((toR c).PC_ < (toR c).Guard_) = true by show ¬ decide (c.PC_ < c.setup_.Guard_) = true; simpa using g), if_neg g]; rfl
/-! memory -/
theorem place_spec {p : Int} (A : At H i k c m) (hp : u32 p) (hk : (m.words_.length : Int) * 4 = m.layout_.Stack_) : memory_Mem_place H (.at k 0) p = some (if p % 4 ≠ 0 then (0, 30) else if p ≥ m.layout_.Stack_ then (0, 31) else (p / 4, 0)) := by
  unfold u32 at hp
  unfold memory_Mem_place
  rw [tmod_pos hp.1, tdiv_pos hp.1, wrap_u32 (p / 4) (by omega) (by omega), wrap_i64 (p / 4) (by omega) (by omega)]
  by_cases c1 : p % 4 = 0
  · rw [if_neg (by simpa using c1), if_neg (by simpa using c1), pbnd_at, A.m, bind1_some]
    by_cases c2 : p ≥ m.layout_.Stack_
    · rw [if_pos (by simpa using c2), if_pos c2]
    · rw [if_neg (by simpa using c2), if_neg c2]
  · rw [if_pos (by simpa using c1), if_pos (by simpa using c1)]
/-- a word, or why there is none -/
def ldV (m : T_memory_Mem) (p : Int) : Int × Int := if p % 4 ≠ 0 then (0, 30) else if p ≥ m.layout_.Stack_ then (0, 31) else (m.words_[(p / 4).toNat]?.getD 0, 0)
theorem gi_words {p : Int} (hp : u32 p) (hk : (m.words_.length : Int) * 4 = m.layout_.Stack_) (h : ¬ p ≥ m.layout_.Stack_) : gi m.words_ (p / 4) = some (m.words_[(p / 4).toNat]?.getD 0) := by
  unfold u32 at hp
  rw [gi_some (by omega) (by omega), List.getElem?_eq_getElem (by omega)]; rfl
theorem ldV_1 {p : Int} (h : p % 4 ≠ 0) : ldV m p = (0, 30) := by unfold ldV; rw [if_pos h]
theorem ldV_2 {p : Int} (h : p % 4 = 0) (h2 : p ≥ m.layout_.Stack_) : ldV m p = (0, 31) := by unfold ldV; rw [if_neg (by simpa using h), if_pos h2]
theorem ldV_3 {p : Int} (h : p % 4 = 0) (h2 : ¬ p ≥ m.layout_.Stack_) : ldV m p = (m.words_[(p / 4).toNat]?.getD 0, 0) := by unfold ldV; rw [if_neg (by simpa using h), if_neg h2]
theorem load_spec {p : Int} (A : At H i k c m) (hp : u32 p) (hk : (m.words_.length : Int) * 4 = m.layout_.Stack_) : memory_Mem_Load H (.at k 0) p = some (ldV m p) := by
  unfold memory_Mem_Load
  rw [place_spec A hp hk]
  by_cases c1 : p % 4 = 0
  · by_cases c2 : p ≥ m.layout_.Stack_
    · rw [ldV_2 c1 c2, if_neg (by simpa using c1), if_pos c2, bind2_some, if_pos (by simp)]
    · rw [ldV_3 c1 c2, if_neg (by simpa using c1), if_neg c2, bind2_some, if_neg (by simp), pbnd_at, A.m, bind1_some, gi_words hp hk c2, bind1_some]
  · rw [ldV_1 c1, if_pos c1, bind2_some, if_pos (by simp)]
theorem r_load {p : Int} (hp : u32 p) (hk : (m.words_.length : Int) * 4 = m.layout_.Stack_) : ref03_Load (toM m) p = some (ldV m p) := by
  have hp' := hp
  unfold u32 at hp
  have e : (toM m).W_ = m.words_ := rfl
  unfold ref03_Load
  rw [tmod_pos hp.1, tdiv_pos hp.1, wrap_u32 (p / 4) (by omega) (by omega), wrap_i64 (p / 4) (by omega) (by omega), e]
  by_cases c1 : p % 4 = 0
  · by_cases c2 : p ≥ m.layout_.Stack_
    · rw [ldV_2 c1 c2, if_neg (by simp [c1]), if_pos (by simp; omega)]
    · rw [ldV_3 c1 c2, if_neg (by simp [c1]), if_neg (by simp; omega), gi_words hp' hk c2, bind1_some]
  · rw [ldV_1 c1, if_pos (by simpa using c1)]
theorem ldV_u32 {p : Int} (I : Inv c m) : u32 (ldV m p).1 := by
  unfold ldV
  split
  · exact ⟨by decide, by decide⟩
  · split
    · exact ⟨by decide, by decide⟩
    · show u32 (m.words_[(p / 4).toNat]?.getD 0)
      cases h : m.words_[(p / 4).toNat]? with
      | none => exact ⟨by decide, by decide⟩
      | some x => exact I.ws x (List.mem_of_getElem? h)
end
end Go.Proofs.Abs
/- The two machines, side by side: what is reckoned of two registers; what is stored and fetched. -/
namespace Go.Proofs.Abs
open Go
set_option linter.unusedVariables false
set_option linter.unusedSimpArgs false
def i32r (x : Int) : Prop := -2147483648 ≤ x ∧ x ≤ 2147483647
theorem i32_wrap (x : Int) : i32r (IntKind.wrap .i32 x) := by unfold i32r; rw [wrap_i32_mod]; omega
theorem tmod_sign (x y : Int) : (0 ≤ x → 0 ≤ Int.tmod x y) ∧ (x ≤ 0 → Int.tmod x y ≤ 0) := by
  refine ⟨fun h => Int.tmod_nonneg _ h, fun h => ?_⟩
  have := Int.tmod_nonneg y (show 0 ≤ -x by omega)
  rw [Int.neg_tmod] at this; omega
theorem sgn (a b : Prop) [Decidable a] [Decidable b] : ((decide a != decide b) = true) ↔ (a ↔ ¬ b) := by by_cases ha : a <;> by_cases hb : b <;> simp [ha, hb]
theorem tmod_le (x y : Int) : (Int.tmod x y).natAbs ≤ x.natAbs := by rw [Int.natAbs_tmod]; exact Nat.mod_le _ _
/-- both divide alike -/
theorem div_both {x y : Int} (hx : i32r x) (hy : i32r y) : ∃ q ok, word_Div x y = some (q, ok) ∧ ref01_Div x y = some (q, ok) ∧ i32r q ∧ (ok = true → y ≠ 0 ∧ (y = -1 → q = IntKind.wrap .i32 (-x)) ∧ (y ≠ -1 → q = (if x - y * Int.tdiv x y ≠ 0 ∧ (x < 0 ↔ ¬ y < 0) then Int.tdiv x y - 1 else Int.tdiv x y))) := by
  unfold i32r at hx hy
  by_cases y0 : y = 0
  · subst y0
    exact ⟨0, false, by unfold word_Div; rfl, by unfold ref01_Div; rfl, ⟨by decide, by decide⟩, fun h => by cases h⟩
  have ab := Int.natAbs_tdiv_le_natAbs x y
  have qb : -2147483648 ≤ Int.tdiv x y ∧ Int.tdiv x y ≤ 2147483648 := by omega
  have rd : Int.tmod x y = x - y * Int.tdiv x y := Int.tmod_def x y
  by_cases y1 : y = -1
  · subst y1
    have t : Int.tdiv x (-1) = -x := by rw [Int.tdiv_neg, Int.tdiv_one]
    refine ⟨IntKind.wrap .i32 (-x), true, ?_, ?_, i32_wrap _, fun _ => ⟨by decide, fun _ => rfl, fun h => absurd rfl h⟩⟩
    · unfold word_Div
      rw [if_neg (by decide), if_pos (by decide)]
      congr 3; omega
    · unfold ref01_Div ref01_Div_j1
      have qi : quoI .i64 (IntKind.wrap .i64 x) (IntKind.wrap .i64 (-1)) = some (-x) := by
        rw [wrap_i64 x (by omega) (by omega), wrap_i64 (-1) (by decide) (by decide)]
        unfold quoI
        rw [if_neg (by decide), t, wrap_i64 _ (by omega) (by omega)]
      rw [if_neg (by decide), qi, bind1_some, wrap_i64 (-1) (by decide) (by decide), wrap_i64 (-x * -1) (by omega) (by omega), wrap_i64 x (by omega) (by omega), if_neg (by simp), round_all (by omega) (by omega), bind1_some]
  · have qb : i32r (Int.tdiv x y) := by
      unfold i32r
      by_cases xm : x = -2147483648
      · subst xm
        have : (Int.tdiv (-2147483648) y).natAbs = 2147483648 / y.natAbs := by rw [Int.natAbs_tdiv]; rfl
        by_cases yy : y = 1
        · subst yy; decide
        · have : (Int.tdiv (-2147483648) y).natAbs ≤ 2147483648 / 2 := by rw [this]; exact Nat.div_le_div_left (by omega) (by decide)
          omega
      · omega
    unfold i32r at qb
    have pq : y * Int.tdiv x y = x - Int.tmod x y := by omega
    have rb : -2147483648 ≤ Int.tmod x y ∧ Int.tmod x y ≤ 2147483648 := by
      obtain ⟨s1, s2⟩ := tmod_sign x y
      have := tmod_le x y
      omega
    obtain ⟨s1, s2⟩ := tmod_sign x y
    obtain ⟨q, hq⟩ : ∃ q, q = Int.tdiv x y := ⟨_, rfl⟩
    obtain ⟨r, hr⟩ : ∃ r, r = Int.tmod x y := ⟨_, rfl⟩
    rw [← hq] at qb pq rd
    rw [← hr] at rb pq rd s1 s2
    have qi : quoI .i64 (IntKind.wrap .i64 x) (IntKind.wrap .i64 y) = some q := by
      rw [wrap_i64 x (by omega) (by omega), wrap_i64 y (by omega) (by omega)]
      unfold quoI
      rw [if_neg y0, ← hq, wrap_i64 _ (by omega) (by omega)]
    have qj : quoI .i32 x y = some q := by
      unfold quoI
      rw [if_neg y0, ← hq, wrap_i32 _ (by omega) (by omega)]
    have rj : remI .i32 x y = some r := by
      unfold remI
      rw [if_neg y0, ← hr]
    have wq : IntKind.wrap .i64 (q * y) = x - r := by rw [Int.mul_comm, pq, wrap_i64 _ (by omega) (by omega)]
    rw [← hq, ← rd]
    by_cases cd : r ≠ 0 ∧ (x < 0 ↔ ¬ y < 0)
    · have qm : i32r (q - 1) := by
        unfold i32r
        refine ⟨?_, by omega⟩
        by_cases qq : q = -2147483648
        · exfalso
          have e : y * -2147483648 = x - r := by rw [← qq]; exact pq
          obtain ⟨c1, c2⟩ := cd
          by_cases xs : x < 0
          · have := c2.1 xs
            have := s2 (by omega)
            omega
          · have : y < 0 := by
              by_cases k : y < 0
              · exact k
              · exact absurd (c2.2 k) xs
            have := s1 (by omega)
            omega
        · omega
      refine ⟨q - 1, true, ?_, ?_, qm, fun _ => ⟨y0, fun h => absurd h y1, fun _ => by rw [if_pos cd]⟩⟩
      · unfold word_Div word_Div_j1
        rw [if_neg (by simpa using y0), if_neg (by simpa using y1), qj, bind1_some, rj, bind1_some, if_pos (by rw [Bool.and_eq_true, bne_iff_ne, sgn]; exact cd), wrap_i32 _ qm.1 qm.2]
      · unfold ref01_Div ref01_Div_j1
        unfold i32r at qm
        rw [if_neg (by simpa using y0), qi, bind1_some, wrap_i64 x (by omega) (by omega), wrap_i64 y (by omega) (by omega), wq, if_pos (by rw [Bool.and_eq_true, bne_iff_ne, sgn]; exact ⟨by omega, cd.2⟩), wrap_i64 (q - 1) (by omega) (by omega), round_all (by omega) (by omega), bind1_some, wrap_i32 _ qm.1 qm.2]
    · refine ⟨q, true, ?_, ?_, qb, fun _ => ⟨y0, fun h => absurd h y1, fun _ => by rw [if_neg cd]⟩⟩
      · unfold word_Div word_Div_j1
        rw [if_neg (by simpa using y0), if_neg (by simpa using y1), qj, bind1_some, rj, bind1_some, if_neg (by rw [Bool.and_eq_true, bne_iff_ne, sgn]; exact cd)]
      · unfold ref01_Div ref01_Div_j1
        rw [if_neg (by simpa using y0), qi, bind1_some, wrap_i64 x (by omega) (by omega), wrap_i64 y (by omega) (by omega), wq, if_neg (by rw [Bool.and_eq_true, bne_iff_ne, sgn]; exact fun h => cd ⟨by omega, h.2⟩), round_all (by omega) (by omega), bind1_some, wrap_i32 _ qb.1 qb.2]
theorem mod_both {x y : Int} (hx : i32r x) (hy : i32r y) : ∃ q ok, word_Mod x y = some (q, ok) ∧ ref01_Mod x y = some (q, ok) := by
  obtain ⟨q, ok, _, d2, qr, d3⟩ := div_both hx hy
  unfold i32r at hx hy qr
  by_cases y0 : y = 0
  · subst y0
    exact ⟨0, false, by unfold word_Mod; rfl, by unfold ref01_Mod ref01_Div; rfl⟩
  cases ok with
  | false =>
    exfalso
    unfold ref01_Div ref01_Div_j1 at d2
    rw [if_neg (by simpa using y0)] at d2
    obtain ⟨v, _, d2⟩ := bind1_inv d2
    split at d2 <;> (obtain ⟨u, _, d2⟩ := bind1_inv d2; cases d2)
  | true =>
    obtain ⟨_, e1, e2⟩ := d3 rfl
    have rm : ref01_Mod x y = some (IntKind.wrap .i32 (x - q * y), true) := by
      have pb : -4611686018427387905 < q * y ∧ q * y < 4611686018427387905 := by
        have := Int.natAbs_mul q y
        have h1 : q.natAbs * y.natAbs ≤ 2147483648 * 2147483648 := Nat.mul_le_mul (by omega) (by omega)
        omega
      unfold ref01_Mod
      rw [d2, bind2_some, if_neg (by simp), wrap_i64 q (by omega) (by omega), wrap_i64 y (by omega) (by omega), wrap_i64 x (by omega) (by omega), wrap_i64 (q * y) (by omega) (by omega), wrap_i64 _ (by omega) (by omega)]
      by_cases big : -4611686018427387904 < x - q * y ∧ x - q * y < 4611686018427387904
      · rw [round_all big.1 big.2, bind1_some]
      · exfalso
        by_cases y1 : y = -1
        · subst y1; omega
        · have rd := Int.tmod_def x y
          have rb := tmod_le x y
          have e2 := e2 y1
          rw [Int.mul_comm] at big
          split at e2
          · rw [e2, Int.mul_sub] at big; omega
          · rw [e2] at big; omega
    rw [rm]
    by_cases y1 : y = -1
    · subst y1
      refine ⟨0, true, by unfold word_Mod; rw [if_neg (by decide), if_pos (by decide)], ?_⟩
      rw [e1 rfl]
      congr 2
      rw [wrap_i32_mod, wrap_i32_mod]; omega
    · have e2 := e2 y1
      have rd := Int.tmod_def x y
      obtain ⟨s1, s2⟩ := tmod_sign x y
      obtain ⟨r, hr⟩ : ∃ r, r = Int.tmod x y := ⟨_, rfl⟩
      have rj : remI .i32 x y = some r := by
        unfold remI
        rw [if_neg y0, ← hr]
      rw [← rd, ← hr] at e2
      rw [← hr] at rd s1 s2
      by_cases cd : r ≠ 0 ∧ (x < 0 ↔ ¬ y < 0)
      · rw [if_pos cd] at e2
        have : x - q * y = r + y := by rw [e2, Int.mul_comm, Int.mul_sub]; omega
        rw [this]
        refine ⟨_, true, ?_, rfl⟩
        unfold word_Mod word_Mod_j1
        rw [if_neg (by simpa using y0), if_neg (by simpa using y1), rj, bind1_some, if_pos]
        rw [Bool.and_eq_true, bne_iff_ne, sgn]
        refine ⟨cd.1, fun h => cd.2.1 (by omega), fun h => ?_⟩
        have := cd.2.2 h
        omega
      · rw [if_neg cd] at e2
        have : x - q * y = r := by rw [e2, Int.mul_comm]; omega
        have rb := tmod_le x y
        rw [← hr] at rb
        rw [this, wrap_i32 r (by omega) (by omega)]
        refine ⟨_, true, ?_, rfl⟩
        unfold word_Mod word_Mod_j1
        rw [if_neg (by simpa using y0), if_neg (by simpa using y1), rj, bind1_some, if_neg]
        rw [Bool.and_eq_true, bne_iff_ne, sgn]
        refine fun h => cd ⟨h.1, fun hx0 => h.2.1 ?_, fun hy0 => ?_⟩
        · have := s2 (by omega); omega
        · have := h.2.2 hy0
          by_cases k : 0 ≤ x
          · have := s1 k; omega
          · omega
theorem mul_both (x y : Int) : IntKind.wrap .u32 (IntKind.wrap .i32 (IntKind.wrap .i32 x * IntKind.wrap .i32 y)) = IntKind.wrap .u32 (x * y) := by
  obtain ⟨a, ha⟩ : ∃ a, IntKind.wrap .i32 x = x + 4294967296 * a := ⟨-((x + 2147483648) / 4294967296), by rw [wrap_i32_mod]; omega⟩
  obtain ⟨b, hb⟩ : ∃ b, IntKind.wrap .i32 y = y + 4294967296 * b := ⟨-((y + 2147483648) / 4294967296), by rw [wrap_i32_mod]; omega⟩
  have e : (x + 4294967296 * a) * (y + 4294967296 * b) = x * y + 4294967296 * (x * b + a * y + 4294967296 * (a * b)) := by grind
  rw [ha, hb, e, wrap_mod, wrap_mod, wrap_i32_mod]
  omega
end Go.Proofs.Abs
/- The two machines, side by side: each operation. -/
namespace Go.Proofs.Abs
open Go
set_option linter.unusedVariables false
set_option linter.unusedSimpArgs false
def Rg (a : Int) : Prop := 0 ≤ a ∧ a < 16
/-- an operation does the same on both -/
def Res (f : Nat → Nat → Heap → Option Heap) (x : T_instr_Instr) (c : T_cpu_Cpu) (m : T_memory_Mem) : Prop :=
  ∃ c' m', ref04_do (toR c) (toM m) (toI x) = some (toR c', toM m') ∧ Inv c' m' ∧ m'.layout_ = m.layout_ ∧ c'.Out_.length ≤ c.Out_.length + 1 ∧ ∀ i k, To (f i k) i k c m c' m'
section
variable {c : T_cpu_Cpu} {m : T_memory_Mem} {a b d n : Int}
theorem flag_both (p : Prop) [Decidable p] : cpu_flag (decide p) = some (if p then 1 else 0) ∧ ref04_is (decide p) = some (if p then 1 else 0) := by
  by_cases h : p <;> simp [h, cpu_flag, ref04_is]
theorem u32_if (p : Prop) [Decidable p] : u32 (if p then 1 else 0) := by split <;> exact ⟨by decide, by decide⟩
theorem u32_bits (o : BinOp) (x y : Int) (h : ∃ z, bitsOf o .u32 x y = IntKind.u32.wrap z) : u32 (bitsOf o .u32 x y) := by
  obtain ⟨z, e⟩ := h; rw [e]; exact u32_wrap z
theorem cut_out {f : Nat → Nat → Heap → Option Heap} {x : T_instr_Instr} {c' : T_cpu_Cpu} (h1 : ref04_do (toR c) (toM m) (toI x) = some (toR c', toM m)) (h2 : Inv c' m) (h3 : c'.Out_ = c.Out_) (h4 : ∀ i k, To (f i k) i k c m c' m) : Res f x c m :=
  ⟨c', m, h1, h2, rfl, by rw [h3]; omega, h4⟩
theorem trap_out (w : Int) : (cTrap c w).Out_ = c.Out_ := by unfold cTrap; split <;> rfl
theorem set_fin {g : Heap → Option Heap} {i k : Nat} {w : Int} (ha : Rg a) (h : ∀ H, At H i k c m → g H = cpu_Cpu_set H (.at i 0) a w) : To g i k c m (cSet c a w) m := fun H A => by
  obtain ⟨H1, e1, A1⟩ := set_to ha w H A
  exact ⟨H1, (h H A).trans e1, A1⟩
theorem b_id {q : Option Heap} : bind1 q (fun H => some H) = q := by cases q <;> rfl
/-- what is reckoned of two registers -/
theorem reckon_res (I : Inv c m) {op : Int} (ho : 6 ≤ op ∧ op ≤ 17) (ha : Rg a) (hb : Rg b) (hd : Rg d) : ∃ v ok, ref04_reckon op (c.R_.g b.toNat) (c.R_.g d.toNat) = some (v, ok) ∧ u32 v ∧
    ∀ i k, To (fun H => cpu_Cpu_reckon H (.at i 0) ⟨op, a, b, d, n⟩) i k c m (if ok = true then cSet c a v else cTrap c 3) m := by
  obtain ⟨x, hx⟩ : ∃ x, x = c.R_.g b.toNat := ⟨_, rfl⟩
  obtain ⟨y, hy⟩ : ∃ y, y = c.R_.g d.toNat := ⟨_, rfl⟩
  have ux : u32 x := by rw [hx]; exact I.regs _ (by unfold Rg at hb; omega)
  have uy : u32 y := by rw [hy]; exact I.regs _ (by unfold Rg at hd; omega)
  rw [← hx, ← hy]
  have hd' : ∀ {H i k}, At H i k c m → ga c.R_ b = some x ∧ ga c.R_ d = some y := fun A => ⟨by rw [ga_g hb.1 (by unfold Rg at hb; omega), hx], by rw [ga_g hd.1 (by unfold Rg at hd; omega), hy]⟩
  have go : ∀ (v : Int), (∀ H i k, At H i k c m → cpu_Cpu_reckon H (.at i 0) ⟨op, a, b, d, n⟩ = cpu_Cpu_set H (.at i 0) a v) → ∀ i k, To (fun H => cpu_Cpu_reckon H (.at i 0) ⟨op, a, b, d, n⟩) i k c m (if true = true then cSet c a v else cTrap c 3) m := fun v h i k => by
    rw [if_pos rfl]; exact set_fin ha fun H A => h H i k A
  have : op = 6 ∨ op = 7 ∨ op = 8 ∨ op = 9 ∨ op = 10 ∨ op = 11 ∨ op = 12 ∨ op = 13 ∨ op = 14 ∨ op = 15 ∨ op = 16 ∨ op = 17 := by omega
  rcases this with rfl | rfl | rfl | rfl | rfl | rfl | rfl | rfl | rfl | rfl | rfl | rfl
  · refine ⟨_, true, by unfold ref04_reckon; rw [if_pos (by rfl)], u32_wrap _, go _ fun H i k A => ?_⟩
    obtain ⟨h1, h2⟩ := hd' A
    unfold cpu_Cpu_reckon
    rw [pbnd_at, A.c, bind1_some, h1, bind1_some, h2, bind1_some, if_pos (by rfl)]; exact b_id
  · refine ⟨_, true, by unfold ref04_reckon; rw [if_neg (by decide), if_pos (by rfl)], u32_wrap _, go _ fun H i k A => ?_⟩
    obtain ⟨h1, h2⟩ := hd' A
    unfold cpu_Cpu_reckon
    rw [pbnd_at, A.c, bind1_some, h1, bind1_some, h2, bind1_some, if_neg (by simp), if_pos (by rfl)]; exact b_id
  · refine ⟨IntKind.wrap .u32 (x * y), true, ?_, u32_wrap _, go _ fun H i k A => ?_⟩
    · have i1 := i32_wrap x
      have i2 := i32_wrap y
      unfold i32r at i1 i2
      have pb : -4611686018427387905 < IntKind.wrap .i32 x * IntKind.wrap .i32 y ∧ IntKind.wrap .i32 x * IntKind.wrap .i32 y < 4611686018427387905 := by
        have := Int.natAbs_mul (IntKind.wrap .i32 x) (IntKind.wrap .i32 y)
        have h1 : (IntKind.wrap .i32 x).natAbs * (IntKind.wrap .i32 y).natAbs ≤ 2147483648 * 2147483648 := Nat.mul_le_mul (by omega) (by omega)
        omega
      unfold ref04_reckon ref01_Times
      rw [if_neg (by decide), if_neg (by decide), if_pos (by rfl), wrap_i64 (IntKind.wrap .i32 x) (by omega) (by omega), wrap_i64 (IntKind.wrap .i32 y) (by omega) (by omega), wrap_i64 _ (by omega) (by omega)]
      by_cases big : IntKind.wrap .i32 x * IntKind.wrap .i32 y = 4611686018427387904
      · have z : ref01_Round 4611686018427387904 = some 0 := by kernel_rfl
        have z2 : IntKind.wrap .u32 (IntKind.wrap .i32 4611686018427387904) = 0 := by kernel_rfl
        rw [← mul_both, big, z, bind1_some, bind1_some, z2]; rfl
      · by_cases sm : -4611686018427387904 < IntKind.wrap .i32 x * IntKind.wrap .i32 y
        · rw [round_all sm (by omega), bind1_some, bind1_some, mul_both]
        · have e : IntKind.wrap .i32 x * IntKind.wrap .i32 y = -4611686018427387904 := by omega
          have z : ref01_Round (-4611686018427387904) = some 0 := by kernel_rfl
          have z2 : IntKind.wrap .u32 (IntKind.wrap .i32 (-4611686018427387904)) = 0 := by kernel_rfl
          rw [← mul_both, e, z, bind1_some, bind1_some, z2]; rfl
    · obtain ⟨h1, h2⟩ := hd' A
      unfold cpu_Cpu_reckon
      rw [pbnd_at, A.c, bind1_some, h1, bind1_some, h2, bind1_some, if_neg (by simp), if_neg (by simp), if_pos (by rfl)]; exact b_id
  · obtain ⟨q, ok, d1, d2, _, _⟩ := div_both (i32_wrap x) (i32_wrap y)
    refine ⟨IntKind.wrap .u32 q, ok, by unfold ref04_reckon; rw [if_neg (by decide), if_neg (by decide), if_neg (by decide), if_pos (by rfl), d2, bind2_some], u32_wrap _, fun i k H A => ?_⟩
    obtain ⟨h1, h2⟩ := hd' A
    show ∃ H', cpu_Cpu_reckon H (.at i 0) ⟨9, a, b, d, n⟩ = _ ∧ _
    unfold cpu_Cpu_reckon cpu_Cpu_reckon_j4 cpu_Cpu_divide cpu_Cpu_divide_j1
    rw [pbnd_at, A.c, bind1_some, h1, bind1_some, h2, bind1_some, if_neg (by simp), if_neg (by simp), if_neg (by simp), if_pos (by rfl), if_pos (by rfl), d1, bind2_some, if_neg (by simp)]
    cases ok with
    | true =>
      obtain ⟨H1, e1, A1⟩ := set_to ha (IntKind.wrap .u32 q) H A
      exact ⟨H1, by rw [if_neg (by simp), b_id]; show bind1 (cpu_Cpu_set H (.at i 0) a _) _ = _; exact (congrArg (fun z => bind1 z _) e1), A1⟩
    | false =>
      obtain ⟨H1, e1, A1⟩ := trap_to 3 H A
      exact ⟨H1, by rw [if_pos (by rfl), b_id]; exact (congrArg (fun z => bind1 z _) e1), A1⟩
  · obtain ⟨q0, ok0, d0, _⟩ := div_both (i32_wrap x) (i32_wrap y)
    obtain ⟨q, ok, d1, d2⟩ := mod_both (i32_wrap x) (i32_wrap y)
    refine ⟨IntKind.wrap .u32 q, ok, by unfold ref04_reckon; rw [if_neg (by decide), if_neg (by decide), if_neg (by decide), if_neg (by decide), if_pos (by rfl), d2, bind2_some], u32_wrap _, fun i k H A => ?_⟩
    obtain ⟨h1, h2⟩ := hd' A
    show ∃ H', cpu_Cpu_reckon H (.at i 0) ⟨10, a, b, d, n⟩ = _ ∧ _
    unfold cpu_Cpu_reckon cpu_Cpu_reckon_j4 cpu_Cpu_divide cpu_Cpu_divide_j1
    rw [pbnd_at, A.c, bind1_some, h1, bind1_some, h2, bind1_some, if_neg (by simp), if_neg (by simp), if_neg (by simp), if_neg (by simp), if_pos (by rfl), d0, bind2_some, if_pos (by rfl), d1, bind2_some]
    cases ok with
    | true =>
      obtain ⟨H1, e1, A1⟩ := set_to ha (IntKind.wrap .u32 q) H A
      exact ⟨H1, by rw [if_neg (by simp), b_id]; exact (congrArg (fun z => bind1 z _) e1), A1⟩
    | false =>
      obtain ⟨H1, e1, A1⟩ := trap_to 3 H A
      exact ⟨H1, by rw [if_pos (by rfl), b_id]; exact (congrArg (fun z => bind1 z _) e1), A1⟩
  · refine ⟨_, true, by unfold ref04_reckon; rw [if_neg (by decide), if_neg (by decide), if_neg (by decide), if_neg (by decide), if_neg (by decide), if_pos (by rfl)], u32_bits _ _ _ ⟨_, rfl⟩, go _ fun H i k A => ?_⟩
    obtain ⟨h1, h2⟩ := hd' A
    unfold cpu_Cpu_reckon cpu_Cpu_reckon_j4
    rw [pbnd_at, A.c, bind1_some, h1, bind1_some, h2, bind1_some, if_neg (by simp), if_neg (by simp), if_neg (by simp), if_neg (by simp), if_neg (by simp), if_pos (by rfl)]; exact b_id
  · refine ⟨_, true, by unfold ref04_reckon; rw [if_neg (by decide), if_neg (by decide), if_neg (by decide), if_neg (by decide), if_neg (by decide), if_neg (by decide), if_pos (by rfl)], u32_bits _ _ _ ⟨_, rfl⟩, go _ fun H i k A => ?_⟩
    obtain ⟨h1, h2⟩ := hd' A
    unfold cpu_Cpu_reckon cpu_Cpu_reckon_j4
    rw [pbnd_at, A.c, bind1_some, h1, bind1_some, h2, bind1_some, if_neg (by simp), if_neg (by simp), if_neg (by simp), if_neg (by simp), if_neg (by simp), if_neg (by simp), if_pos (by rfl)]; exact b_id
  · refine ⟨_, true, by unfold ref04_reckon; rw [if_neg (by decide), if_neg (by decide), if_neg (by decide), if_neg (by decide), if_neg (by decide), if_neg (by decide), if_neg (by decide), if_pos (by rfl)], u32_bits _ _ _ ⟨_, rfl⟩, go _ fun H i k A => ?_⟩
    obtain ⟨h1, h2⟩ := hd' A
    unfold cpu_Cpu_reckon cpu_Cpu_reckon_j4
    rw [pbnd_at, A.c, bind1_some, h1, bind1_some, h2, bind1_some, if_neg (by simp), if_neg (by simp), if_neg (by simp), if_neg (by simp), if_neg (by simp), if_neg (by simp), if_neg (by simp), if_pos (by rfl)]; exact b_id
  · obtain ⟨f1, f2⟩ := flag_both (IntKind.wrap .i32 x < IntKind.wrap .i32 y)
    refine ⟨_, true, by unfold ref04_reckon; rw [if_neg (by decide), if_neg (by decide), if_neg (by decide), if_neg (by decide), if_neg (by decide), if_neg (by decide), if_neg (by decide), if_neg (by decide), if_pos (by rfl), f2, bind1_some], u32_if _, go _ fun H i k A => ?_⟩
    obtain ⟨h1, h2⟩ := hd' A
    unfold cpu_Cpu_reckon cpu_Cpu_reckon_j4
    rw [pbnd_at, A.c, bind1_some, h1, bind1_some, h2, bind1_some, if_neg (by simp), if_neg (by simp), if_neg (by simp), if_neg (by simp), if_neg (by simp), if_neg (by simp), if_neg (by simp), if_neg (by simp), if_pos (by rfl), f1, bind1_some]; exact b_id
  · obtain ⟨f1, f2⟩ := flag_both (IntKind.wrap .i32 x ≤ IntKind.wrap .i32 y)
    refine ⟨_, true, by unfold ref04_reckon; rw [if_neg (by decide), if_neg (by decide), if_neg (by decide), if_neg (by decide), if_neg (by decide), if_neg (by decide), if_neg (by decide), if_neg (by decide), if_neg (by decide), if_pos (by rfl), f2, bind1_some], u32_if _, go _ fun H i k A => ?_⟩
    obtain ⟨h1, h2⟩ := hd' A
    unfold cpu_Cpu_reckon cpu_Cpu_reckon_j4
    rw [pbnd_at, A.c, bind1_some, h1, bind1_some, h2, bind1_some, if_neg (by simp), if_neg (by simp), if_neg (by simp), if_neg (by simp), if_neg (by simp), if_neg (by simp), if_neg (by simp), if_neg (by simp), if_neg (by simp), if_pos (by rfl), f1, bind1_some]; exact b_id
  · have eq : (IntKind.wrap .i32 x == IntKind.wrap .i32 y) = decide (x = y) ∧ (x == y) = decide (x = y) := by
      unfold u32 at ux uy
      constructor
      · by_cases h : x = y
        · subst h; simp
        · have : IntKind.wrap .i32 x ≠ IntKind.wrap .i32 y := by rw [wrap_i32_mod, wrap_i32_mod]; omega
          simp [h, this]
      · by_cases h : x = y <;> simp [h]
    obtain ⟨f1, f2⟩ := flag_both (x = y)
    refine ⟨_, true, by unfold ref04_reckon; rw [if_neg (by decide), if_neg (by decide), if_neg (by decide), if_neg (by decide), if_neg (by decide), if_neg (by decide), if_neg (by decide), if_neg (by decide), if_neg (by decide), if_neg (by decide), if_pos (by rfl), eq.2, f2, bind1_some], u32_if _, go _ fun H i k A => ?_⟩
    obtain ⟨h1, h2⟩ := hd' A
    unfold cpu_Cpu_reckon cpu_Cpu_reckon_j4
    rw [pbnd_at, A.c, bind1_some, h1, bind1_some, h2, bind1_some, if_neg (by simp), if_neg (by simp), if_neg (by simp), if_neg (by simp), if_neg (by simp), if_neg (by simp), if_neg (by simp), if_neg (by simp), if_neg (by simp), if_neg (by simp), if_pos (by rfl), eq.1, f1, bind1_some]; exact b_id
  · have eq : (IntKind.wrap .i32 x != IntKind.wrap .i32 y) = decide (x ≠ y) ∧ (x != y) = decide (x ≠ y) := by
      unfold u32 at ux uy
      constructor
      · by_cases h : x = y
        · subst h; simp
        · have : IntKind.wrap .i32 x ≠ IntKind.wrap .i32 y := by rw [wrap_i32_mod, wrap_i32_mod]; omega
          simp [h, this]
      · by_cases h : x = y <;> simp [h]
    obtain ⟨f1, f2⟩ := flag_both (x ≠ y)
    refine ⟨_, true, by unfold ref04_reckon; rw [if_neg (by decide), if_neg (by decide), if_neg (by decide), if_neg (by decide), if_neg (by decide), if_neg (by decide), if_neg (by decide), if_neg (by decide), if_neg (by decide), if_neg (by decide), if_neg (by decide), if_pos (by rfl), eq.2, f2, bind1_some], u32_if _, go _ fun H i k A => ?_⟩
    obtain ⟨h1, h2⟩ := hd' A
    unfold cpu_Cpu_reckon cpu_Cpu_reckon_j4
    rw [pbnd_at, A.c, bind1_some, h1, bind1_some, h2, bind1_some, if_neg (by simp), if_neg (by simp), if_neg (by simp), if_neg (by simp), if_neg (by simp), if_neg (by simp), if_neg (by simp), if_neg (by simp), if_neg (by simp), if_neg (by simp), if_neg (by simp), eq.1, f1, bind1_some]; exact b_id
theorem reckon_ok (I : Inv c m) {op : Int} (ho : 6 ≤ op ∧ op ≤ 17) (ha : Rg a) (hb : Rg b) (hd : Rg d) : Res (fun i k H => cpu_Cpu_reckon H (.at i 0) ⟨op, a, b, d, n⟩) ⟨op, a, b, d, n⟩ c m := by
  obtain ⟨v, ok, r1, r2, r3⟩ := reckon_res (n := n) I ho ha hb hd
  have ga' : ∀ q, Rg q → ga c.R_ q = some (c.R_.g q.toNat) := fun q hq => ga_g hq.1 (by unfold Rg at hq; omega)
  have e : ref04_do (toR c) (toM m) ⟨op, a, b, d, n⟩ = some (toR (if ok = true then cSet c a v else cTrap c 3), toM m) := by
    unfold ref04_do
    show bind1 (ga c.R_ a) _ = _
    rw [ga' a ha, bind1_some]
    show bind1 (ga c.R_ b) _ = _
    rw [ga' b hb, bind1_some, if_pos (by simp; omega)]
    show bind1 (ga c.R_ d) _ = _
    rw [ga' d hd, bind1_some]
    show bind2 (ref04_reckon op _ _) _ = _
    rw [r1, bind2_some]
    cases ok with
    | true =>
      rw [if_neg (by simp), if_pos rfl]
      show bind1 (ga c.R_ a) _ = _
      rw [ga' a ha, bind1_some]
      show bind1 (sa c.R_ a v) _ = _
      rw [sa_put ha.1 (by unfold Rg at ha; omega), bind1_some]; rfl
    | false => rw [if_pos (by rfl), if_neg (by simp), r_trap, bind1_some]
  refine cut_out e ?_ ?_ r3
  · split
    · exact I.set ha r2
    · exact I.trap ⟨by decide, by decide⟩
  · split
    · rfl
    · exact trap_out 3
end
end Go.Proofs.Abs
/- The two machines, side by side: memory, and the way. -/
namespace Go.Proofs.Abs
open Go
set_option linter.unusedVariables false
set_option linter.unusedSimpArgs false
section
variable {c : T_cpu_Cpu} {m : T_memory_Mem} {a b d n : Int}
def stV (m : T_memory_Mem) (p w : Int) : T_memory_Mem × Int := if (ldV m p).2 ≠ 0 then (m, (ldV m p).2) else if p < m.layout_.Tables_ then (m, 32) else (⟨m.layout_, m.words_.set (p / 4).toNat w⟩, 0)
theorem ld_place {p : Int} (h : (ldV m p).2 = 0) : p % 4 = 0 ∧ ¬ p ≥ m.layout_.Stack_ := by
  by_cases c1 : p % 4 = 0
  · by_cases c2 : p ≥ m.layout_.Stack_
    · rw [ldV_2 c1 c2] at h; cases h
    · exact ⟨c1, c2⟩
  · rw [ldV_1 c1] at h; cases h
theorem store_to {i k : Nat} {p w : Int} (hp : u32 p) (hk : (m.words_.length : Int) * 4 = m.layout_.Stack_) {H : Heap} (A : At H i k c m) : ∃ H', memory_Mem_Store H (.at k 0) p w = some (H', (stV m p w).2) ∧ At H' i k c (stV m p w).1 ∧ Fr H H' i k := by
  have hp' := hp
  unfold u32 at hp
  unfold memory_Mem_Store stV
  rw [place_spec A hp' hk]
  by_cases c0 : (ldV m p).2 = 0
  · obtain ⟨c1, c2⟩ := ld_place c0
    rw [if_neg (by simpa using c1), if_neg c2, bind2_some, if_neg (by simp), pbnd_at, A.m, bind1_some]
    simp only [if_neg (show ¬ (ldV m p).2 ≠ 0 by simpa using c0)]
    by_cases c3 : p < m.layout_.Tables_
    · rw [if_pos (by simpa using c3), if_pos c3]
      exact ⟨H, rfl, A, Fr.refl _ _ _⟩
    · rw [if_neg (by simpa using c3), if_neg c3, gi_words hp' hk c2, bind1_some, si_some (by omega) (by omega), bind1_some, bnd_def]
      exact ⟨_, rfl, A.setM _⟩
  · simp only [if_pos (show (ldV m p).2 ≠ 0 from c0)]
    by_cases c1 : p % 4 = 0
    · by_cases c2 : p ≥ m.layout_.Stack_
      · rw [if_neg (by simpa using c1), if_pos c2, bind2_some, if_pos (by simp), ldV_2 c1 c2]
        exact ⟨H, rfl, A, Fr.refl _ _ _⟩
      · rw [ldV_3 c1 c2] at c0; exact absurd rfl c0
    · rw [if_pos c1, bind2_some, if_pos (by simp), ldV_1 c1]
      exact ⟨H, rfl, A, Fr.refl _ _ _⟩
theorem r_store {p w : Int} (hp : u32 p) (hk : (m.words_.length : Int) * 4 = m.layout_.Stack_) (hs : m.layout_.Stack_ ≤ 4096) : ref03_Store (toM m) p w = some (toM (stV m p w).1, (stV m p w).2) := by
  have hp' := hp
  unfold u32 at hp
  unfold ref03_Store stV
  rw [r_load hp' hk]
  have e : ∀ q : Int × Int, bind2 (some q) (fun r1 r2 => if (r2 != 0) = true then some (toM m, r2) else if decide (p < (toM m).Ends_.g 1) = true then some (toM m, 32) else bind1 (ref03_with (toM m) (IntKind.wrap .i64 (IntKind.wrap .u32 (Int.tdiv p 4))) [w]) fun r6 => some (r6, 0)) = if (q.2 != 0) = true then some (toM m, q.2) else if decide (p < (toM m).Ends_.g 1) = true then some (toM m, 32) else bind1 (ref03_with (toM m) (IntKind.wrap .i64 (IntKind.wrap .u32 (Int.tdiv p 4))) [w]) fun r6 => some (r6, 0) := fun q => rfl
  rw [e]
  have e1 : (toM m).Ends_.g 1 = m.layout_.Tables_ := rfl
  by_cases c0 : (ldV m p).2 = 0
  · obtain ⟨c1, c2⟩ := ld_place c0
    rw [if_neg (by simpa using c0), if_neg (show ¬ (ldV m p).2 ≠ 0 by simpa using c0), e1]
    by_cases c3 : p < m.layout_.Tables_
    · rw [if_pos (by simpa using c3), if_pos c3]
    · rw [if_neg (by simpa using c3), if_neg c3, tdiv_pos hp.1, wrap_u32 (p / 4) (by omega) (by omega), wrap_i64 (p / 4) (by omega) (by omega)]
      show bind1 (ref03_with ⟨endsM m.layout_, m.words_⟩ (p / 4) [w]) _ = _
      rw [with_spec (p / 4) [w] (by omega) (by simp; omega) (by omega), bind1_some]
      have : setAt m.words_ (p / 4).toNat [w] = m.words_.set (p / 4).toNat w := by
        apply List.ext_getElem?
        intro q
        simp only [setAt, List.getElem?_append, List.length_append, List.length_take, List.getElem?_take, List.getElem?_drop, List.getElem?_set, List.length_cons, List.getElem?_cons]
        grind
      rw [this]; rfl
  · rw [if_pos (by simpa using c0), if_pos (show (ldV m p).2 ≠ 0 from c0)]
theorem st_inv (I : Inv c m) {p w : Int} (hw : u32 w) : Inv c (stV m p w).1 ∧ (stV m p w).1.layout_ = m.layout_ := by
  unfold stV
  split
  · exact ⟨I, rfl⟩
  · split
    · exact ⟨I, rfl⟩
    · exact ⟨⟨I.regs, I.pc, I.epc, I.ca, I.tk, I.il, I.st, fun x hx => by
        rcases List.mem_or_eq_of_mem_set hx with h | h
        · exact I.ws x h
        · rw [h]; exact hw, by have := I.wl; simpa using this, I.sk⟩, rfl⟩
theorem to_pc {v : Int} (h : v = (cJump c n).PC_) : toR (cJump c n) = ⟨c.R_, v, c.EPC_, c.Cause_, c.State_, c.Why_, c.Steps_, c.Taken_, c.Out_, c.setup_.Entry_, c.setup_.Vector_, c.setup_.Guard_, c.setup_.Limit_, c.input_⟩ := by rw [h]; rfl
theorem jump_pc (hn : -16777216 ≤ n ∧ n ≤ 16777216) : IntKind.wrap .u32 (IntKind.wrap .u32 (c.PC_ + 4) + IntKind.wrap .u32 (4 * IntKind.wrap .u32 n)) = (cJump c n).PC_ := by
  show _ = IntKind.wrap .u32 (c.PC_ + IntKind.wrap .u32 (4 + IntKind.wrap .u32 (IntKind.wrap .i64 (4 * n))))
  rw [wrap_i64 (4 * n) (by omega) (by omega)]
  simp only [wrap_mod]
  omega
theorem ga' {R : Arr 16 Int} {q : Int} (hq : Rg q) : ga R q = some (R.g q.toNat) := ga_g hq.1 (by unfold Rg at hq; omega)
theorem sa' {R : Arr 16 Int} {q v : Int} (hq : Rg q) : sa R q v = some (R.put q.toNat v) := sa_put hq.1 (by unfold Rg at hq; omega)
theorem ureg (I : Inv c m) {q : Int} (hq : Rg q) : u32 (c.R_.g q.toNat) := I.regs _ (by unfold Rg at hq; omega)
theorem moves_ok (I : Inv c m) {op : Int} (ho : op = 2 ∨ op = 5 ∨ op = 18 ∨ op = 19 ∨ op = 20 ∨ op = 21 ∨ op = 22 ∨ op = 23) (ha : Rg a) (hb : Rg b) (hn : -16777216 ≤ n ∧ n ≤ 16777216) :
    Res (fun i k H => cpu_Cpu_moves H (.at i 0) (.at k 0) ⟨op, a, b, d, n⟩) ⟨op, a, b, d, n⟩ c m := by
  obtain ⟨x, hx⟩ : ∃ x, x = c.R_.g b.toNat := ⟨_, rfl⟩
  obtain ⟨y, hy⟩ : ∃ y, y = c.R_.g a.toNat := ⟨_, rfl⟩
  have g1 : ga c.R_ b = some x := by rw [hx]; exact ga' hb
  have g2 : ga c.R_ a = some y := by rw [hy]; exact ga' ha
  have uy : u32 y := by rw [hy]; exact ureg I ha
  obtain ⟨p, hp⟩ : ∃ p, p = IntKind.wrap .u32 (x + IntKind.wrap .u32 n) := ⟨_, rfl⟩
  have up : u32 p := by rw [hp]; exact u32_wrap _
  rcases ho with rfl | rfl | rfl | rfl | rfl | rfl | rfl | rfl
  · refine cut_out (c' := cSet c a (IntKind.wrap .u32 n)) ?_ (I.set ha (u32_wrap _)) rfl fun i k => set_fin ha fun H A => ?_
    · unfold ref04_do
      show bind1 (ga c.R_ a) _ = _
      rw [g2, bind1_some]
      show bind1 (ga c.R_ b) _ = _
      rw [g1, bind1_some, if_neg (by simp [toI]), if_neg (by simp [toI]), if_pos (by rfl)]
      show bind1 (ga c.R_ a) _ = _
      rw [g2, bind1_some]
      show bind1 (sa c.R_ a _) _ = _
      rw [sa' ha]; rfl
    · unfold cpu_Cpu_moves
      rw [pbnd_at, A.c, bind1_some, g1, bind1_some, if_pos (by rfl)]; exact b_id
  · refine cut_out (c' := cSet c a p) ?_ (I.set ha up) rfl fun i k => set_fin ha fun H A => ?_
    · unfold ref04_do
      show bind1 (ga c.R_ a) _ = _
      rw [g2, bind1_some]
      show bind1 (ga c.R_ b) _ = _
      rw [g1, bind1_some, if_neg (by simp [toI]), if_neg (by simp [toI]), if_neg (by simp [toI]), if_neg (by simp [toI]), if_neg (by simp [toI]), if_pos (by rfl)]
      show bind1 (ga c.R_ a) _ = _
      rw [g2, bind1_some]
      show bind1 (sa c.R_ a (IntKind.wrap .u32 (x + IntKind.wrap .u32 n))) _ = _
      rw [sa' ha, ← hp]; rfl
    · unfold cpu_Cpu_moves
      rw [pbnd_at, A.c, bind1_some, g1, bind1_some, if_neg (by simp), if_pos (by rfl), ← hp]; exact b_id
  · have rf : ref04_do (toR c) (toM m) ⟨18, a, b, d, n⟩ = (if ((ldV m p).2 != 0) = true then some (toR (cFault c (ldV m p).2), toM m) else some (toR (cSet c a (ldV m p).1), toM m)) := by
      unfold ref04_do
      show bind1 (ga c.R_ a) _ = _
      rw [g2, bind1_some]
      show bind1 (ga c.R_ b) _ = _
      rw [g1, bind1_some, if_neg (by simp), if_neg (by simp), if_neg (by simp), if_neg (by simp), if_neg (by simp), if_neg (by simp), if_neg (by simp), if_pos (by rfl)]
      show bind2 (ref03_Load (toM m) (IntKind.wrap .u32 (x + IntKind.wrap .u32 n))) _ = _
      rw [← hp, r_load up I.wl]
      show (if ((ldV m p).2 != 0) = true then _ else _) = _
      split
      · rfl
      · show bind1 (ga c.R_ a) _ = _
        rw [g2, bind1_some]
        show bind1 (sa c.R_ a _) _ = _
        rw [sa' ha]; rfl
    have pf : ∀ {H i k}, At H i k c m → cpu_Cpu_moves H (.at i 0) (.at k 0) ⟨18, a, b, d, n⟩ = (if ((ldV m p).2 != 0) = true then cpu_Cpu_fault H (.at i 0) (ldV m p).2 else cpu_Cpu_set H (.at i 0) a (ldV m p).1) := fun {H i k} A => by
      unfold cpu_Cpu_moves
      rw [pbnd_at, A.c, bind1_some, g1, bind1_some, if_neg (by simp), if_neg (by simp), if_pos (by rfl)]
      show bind2 (memory_Mem_Load H (.at k 0) (IntKind.wrap .u32 (x + IntKind.wrap .u32 n))) _ = _
      rw [← hp, load_spec A up I.wl]
      show (if ((ldV m p).2 != 0) = true then _ else _) = _
      split <;> exact b_id
    by_cases c0 : (ldV m p).2 = 0
    · rw [if_neg (by simpa using c0)] at rf
      refine cut_out rf (I.set ha (ldV_u32 I)) rfl fun i k => set_fin ha fun H A => ?_
      show cpu_Cpu_moves H (.at i 0) (.at k 0) _ = _
      rw [pf A, if_neg (by simpa using c0)]
    · rw [if_pos (by simpa using c0)] at rf
      refine cut_out rf (I.fault _) rfl fun i k H A => ?_
      obtain ⟨H1, e1, A1⟩ := fault_to (ldV m p).2 H A
      refine ⟨H1, ?_, A1⟩
      show cpu_Cpu_moves H (.at i 0) (.at k 0) _ = _
      rw [pf A, if_pos (by simpa using c0)]; exact e1
  · have rf : ref04_do (toR c) (toM m) ⟨19, a, b, d, n⟩ = (if ((stV m p y).2 != 0) = true then some (toR (cFault c (stV m p y).2), toM m) else some (toR (cNext c), toM (stV m p y).1)) := by
      unfold ref04_do
      show bind1 (ga c.R_ a) _ = _
      rw [g2, bind1_some]
      show bind1 (ga c.R_ b) _ = _
      rw [g1, bind1_some, if_neg (by simp), if_neg (by simp), if_neg (by simp), if_neg (by simp), if_neg (by simp), if_neg (by simp), if_neg (by simp), if_neg (by simp), if_pos (by rfl)]
      show bind2 (ref03_Store (toM m) (IntKind.wrap .u32 (x + IntKind.wrap .u32 n)) y) _ = _
      rw [← hp, r_store up I.wl I.sk]
      show (if ((stV m p y).2 != 0) = true then _ else _) = _
      split <;> rfl
    have sm : (stV m p y).2 ≠ 0 → (stV m p y).1 = m := fun h => by
      unfold stV at h ⊢
      split at h
      · rename_i q; rw [if_pos q]
      · rename_i q; rw [if_neg q]
        split at h
        · rename_i q2; rw [if_pos q2]
        · exact absurd rfl h
    obtain ⟨I2, l2⟩ := st_inv I (p := p) uy
    by_cases c0 : (stV m p y).2 = 0
    · rw [if_neg (by simpa using c0)] at rf
      refine ⟨_, _, rf, I2.next, l2, by show c.Out_.length ≤ _; omega, fun i k H A => ?_⟩
      obtain ⟨H1, e1, A1, f1⟩ := store_to (w := y) up I.wl A
      obtain ⟨A2, f2⟩ := A1.setC (cNext c)
      refine ⟨_, ?_, A2, f1.trans f2⟩
      show cpu_Cpu_moves H (.at i 0) (.at k 0) _ = _
      unfold cpu_Cpu_moves
      rw [pbnd_at, A.c, bind1_some, g1, bind1_some, if_neg (by simp), if_neg (by simp), if_neg (by simp), if_pos (by rfl)]
      show bind1 (ga c.R_ a) _ = _
      rw [g2, bind1_some]
      show bind2 (memory_Mem_Store H (.at k 0) (IntKind.wrap .u32 (x + IntKind.wrap .u32 n)) y) _ = _
      rw [← hp, e1, bind2_some, if_neg (by simpa using c0), A1.c, bind1_some, bnd_def]; rfl
    · rw [if_pos (by simpa using c0)] at rf
      refine ⟨_, _, rf, I.fault _, rfl, by show c.Out_.length ≤ _; omega, fun i k H A => ?_⟩
      obtain ⟨H1, e1, A1, f1⟩ := store_to (w := y) up I.wl A
      rw [sm c0] at A1
      obtain ⟨H2, e2, A2, f2⟩ := fault_to (stV m p y).2 H1 A1
      have e2 : cpu_Cpu_fault H1 (.at i 0) (stV m p y).2 = some H2 := e2
      refine ⟨H2, ?_, A2, f1.trans f2⟩
      show cpu_Cpu_moves H (.at i 0) (.at k 0) _ = _
      unfold cpu_Cpu_moves
      rw [pbnd_at, A.c, bind1_some, g1, bind1_some, if_neg (by simp), if_neg (by simp), if_neg (by simp), if_pos (by rfl)]
      show bind1 (ga c.R_ a) _ = _
      rw [g2, bind1_some]
      show bind2 (memory_Mem_Store H (.at k 0) (IntKind.wrap .u32 (x + IntKind.wrap .u32 n)) y) _ = _
      rw [← hp, e1, bind2_some, if_pos (by simpa using c0), e2]; rfl
  · have rf : ref04_do (toR c) (toM m) ⟨20, a, b, d, n⟩ = some (toR (if y = 0 then cJump c n else cNext c), toM m) := by
      unfold ref04_do
      show bind1 (ga c.R_ a) _ = _
      rw [g2, bind1_some]
      show bind1 (ga c.R_ b) _ = _
      rw [g1, bind1_some, if_neg (by simp), if_neg (by simp), if_neg (by simp), if_neg (by simp), if_neg (by simp), if_neg (by simp), if_neg (by simp), if_neg (by simp), if_neg (by simp), if_pos (by rfl)]
      by_cases y0 : y = 0
      · rw [if_pos (by simpa using y0), if_pos y0, to_pc (jump_pc hn)]; rfl
      · rw [if_neg (by simpa using y0), if_neg y0]; rfl
    refine cut_out rf (by
      split
      · exact I.jump _
      · exact I.next) (by split <;> rfl) fun i k H A => ?_
    show ∃ H', cpu_Cpu_moves H (.at i 0) (.at k 0) _ = _ ∧ _
    unfold cpu_Cpu_moves cpu_Cpu_moves_j5
    rw [pbnd_at, A.c, bind1_some, g1, bind1_some, if_neg (by simp), if_neg (by simp), if_neg (by simp), if_neg (by simp), if_pos (by rfl), if_pos (by rfl)]
    show ∃ H', bind1 (ga c.R_ a) _ = _ ∧ _
    rw [g2, bind1_some]
    by_cases y0 : y = 0
    · rw [if_pos (by simp [y0]), if_pos y0]
      obtain ⟨H1, e1, A1⟩ := jump_to n H A
      exact ⟨H1, congrArg (fun z => bind1 z _) e1, A1⟩
    · rw [if_neg (by simp [y0]), if_neg y0, bnd_def]
      exact ⟨_, rfl, A.setC _⟩
  · have rf : ref04_do (toR c) (toM m) ⟨21, a, b, d, n⟩ = some (toR (if y = 0 then cNext c else cJump c n), toM m) := by
      unfold ref04_do
      show bind1 (ga c.R_ a) _ = _
      rw [g2, bind1_some]
      show bind1 (ga c.R_ b) _ = _
      rw [g1, bind1_some, if_neg (by simp), if_neg (by simp), if_neg (by simp), if_neg (by simp), if_neg (by simp), if_neg (by simp), if_neg (by simp), if_neg (by simp), if_neg (by simp), if_neg (by simp), if_pos (by rfl)]
      by_cases y0 : y = 0
      · rw [if_neg (by simpa using y0), if_pos y0]; rfl
      · rw [if_pos (by simpa using y0), if_neg y0, to_pc (jump_pc hn)]; rfl
    refine cut_out rf (by
      split
      · exact I.next
      · exact I.jump _) (by split <;> rfl) fun i k H A => ?_
    show ∃ H', cpu_Cpu_moves H (.at i 0) (.at k 0) _ = _ ∧ _
    unfold cpu_Cpu_moves cpu_Cpu_moves_j5
    rw [pbnd_at, A.c, bind1_some, g1, bind1_some, if_neg (by simp), if_neg (by simp), if_neg (by simp), if_neg (by simp), if_neg (by simp), if_pos (by rfl)]
    show ∃ H', bind1 (ga c.R_ a) _ = _ ∧ _
    rw [g2, bind1_some]
    by_cases y0 : y = 0
    · rw [if_neg (by simp [y0]), if_pos y0, bnd_def]
      exact ⟨_, rfl, A.setC _⟩
    · rw [if_pos (by simp [y0]), if_neg y0]
      obtain ⟨H1, e1, A1⟩ := jump_to n H A
      exact ⟨H1, congrArg (fun z => bind1 z _) e1, A1⟩
  · have rf : ref04_do (toR c) (toM m) ⟨22, a, b, d, n⟩ = some (toR (cJump c n), toM m) := by
      unfold ref04_do
      show bind1 (ga c.R_ a) _ = _
      rw [g2, bind1_some]
      show bind1 (ga c.R_ b) _ = _
      rw [g1, bind1_some, if_neg (by simp), if_neg (by simp), if_neg (by simp), if_neg (by simp), if_neg (by simp), if_neg (by simp), if_neg (by simp), if_neg (by simp), if_neg (by simp), if_neg (by simp), if_neg (by simp), if_pos (by rfl), to_pc (jump_pc hn)]; rfl
    refine cut_out rf (I.jump _) rfl fun i k H A => ?_
    obtain ⟨H1, e1, A1⟩ := jump_to n H A
    refine ⟨H1, ?_, A1⟩
    show cpu_Cpu_moves H (.at i 0) (.at k 0) _ = _
    unfold cpu_Cpu_moves cpu_Cpu_moves_j5
    rw [pbnd_at, A.c, bind1_some, g1, bind1_some, if_neg (by simp), if_neg (by simp), if_neg (by simp), if_neg (by simp), if_neg (by simp), if_neg (by simp), if_neg (by simp)]
    exact congrArg (fun z => bind1 z _) e1
  · obtain ⟨c1, hc1⟩ : ∃ c1 : T_cpu_Cpu, c1 = ⟨c.R_.put 14 (IntKind.wrap .u32 (c.PC_ + 4)), c.PC_, c.EPC_, c.Cause_, c.State_, c.Why_, c.Steps_, c.Taken_, c.Out_, c.setup_, c.input_⟩ := ⟨_, rfl⟩
    have I1 : Inv c1 m := by rw [hc1]; exact ⟨regs_put I.regs (by decide) (u32_wrap _), I.pc, I.epc, I.ca, I.tk, I.il, I.st, I.ws, I.wl, I.sk⟩
    have rf : ref04_do (toR c) (toM m) ⟨23, a, b, d, n⟩ = some (toR (cJump c1 n), toM m) := by
      unfold ref04_do
      show bind1 (ga c.R_ a) _ = _
      rw [g2, bind1_some]
      show bind1 (ga c.R_ b) _ = _
      rw [g1, bind1_some, if_neg (by simp), if_neg (by simp), if_neg (by simp), if_neg (by simp), if_neg (by simp), if_neg (by simp), if_neg (by simp), if_neg (by simp), if_neg (by simp), if_neg (by simp), if_neg (by simp), if_neg (by simp), if_pos (by rfl), to_pc (c := c1) (jump_pc (c := c1) hn)]
      have e : (arrL [c.R_.g 0, c.R_.g 1, c.R_.g 2, c.R_.g 3, c.R_.g 4, c.R_.g 5, c.R_.g 6, c.R_.g 7, c.R_.g 8, c.R_.g 9, c.R_.g 10, c.R_.g 11, c.R_.g 12, c.R_.g 13, IntKind.wrap .u32 (c.PC_ + 4), c.R_.g 15] : Arr 16 Int) = c1.R_ := by rw [hc1]; exact arr16_put _ _
      rw [← e, hc1]; rfl
    refine cut_out rf (I1.jump _) (by rw [hc1]; rfl) fun i k H A => ?_
    obtain ⟨A1, f1⟩ := A.setC c1
    obtain ⟨H2, e2, A2, f2⟩ := jump_to n (set_cpu_Cpu H i 0 c1) A1
    refine ⟨H2, ?_, A2, f1.trans f2⟩
    show cpu_Cpu_moves H (.at i 0) (.at k 0) _ = _
    unfold cpu_Cpu_moves cpu_Cpu_moves_j5
    rw [pbnd_at, A.c, bind1_some, g1, bind1_some, if_neg (by simp), if_neg (by simp), if_neg (by simp), if_neg (by simp), if_neg (by simp), if_neg (by simp), if_pos (by rfl), bnd_def, arr16_put]
    rw [hc1] at e2
    exact congrArg (fun z => bind1 z _) e2
end
end Go.Proofs.Abs
/- The two machines, side by side: the other operations. -/
namespace Go.Proofs.Abs
open Go
set_option linter.unusedVariables false
set_option linter.unusedSimpArgs false
section
variable {c : T_cpu_Cpu} {m : T_memory_Mem} {a b d n : Int}
theorem do_others {op : Int} (ho : 24 ≤ op ∧ op ≤ 33) (ha : Rg a) (hb : Rg b) {r : T_cpu_Cpu} (h : ref04_others (toR c) ⟨op, a, b, d, n⟩ (c.R_.g a.toNat) = some (toR r)) : ref04_do (toR c) (toM m) ⟨op, a, b, d, n⟩ = some (toR r, toM m) := by
  unfold ref04_do
  show bind1 (ga c.R_ a) _ = _
  rw [ga' ha, bind1_some]
  show bind1 (ga c.R_ b) _ = _
  rw [ga' hb, bind1_some, if_neg (by simp; omega), if_neg (by simp; omega), if_neg (by simp; omega), if_neg (by simp; omega), if_neg (by simp; omega), if_neg (by simp; omega), if_neg (by simp; omega), if_neg (by simp; omega), if_neg (by simp; omega), if_neg (by simp; omega), if_neg (by simp; omega), if_neg (by simp; omega), if_neg (by simp; omega), h]
  rfl
theorem next_to {g : Heap → Option Heap} {i k : Nat} {c' : T_cpu_Cpu} (h : ∀ H, At H i k c m → g H = some (set_cpu_Cpu H i 0 c')) : To g i k c m c' m := fun H A => ⟨_, h H A, A.setC _⟩
theorem trap_fin {g : Heap → Option Heap} {i k : Nat} {w : Int} (h : ∀ H, At H i k c m → g H = cpu_Cpu_trap H (.at i 0) w) : To g i k c m (cTrap c w) m := fun H A => by
  obtain ⟨H1, e1, A1⟩ := trap_to w H A
  exact ⟨H1, (h H A).trans e1, A1⟩
theorem chk_fin {g : Heap → Option Heap} {i k : Nat} {w : Int} {t : Bool} (h : ∀ H, At H i k c m → g H = cpu_Cpu_check H (.at i 0) t w) : To g i k c m (if t = true then cNext c else cTrap c w) m := fun H A => by
  obtain ⟨H1, e1, A1⟩ := check_to t w H A
  exact ⟨H1, (h H A).trans e1, A1⟩
def cOut (c : T_cpu_Cpu) (n y : Int) : T_cpu_Cpu := ⟨c.R_, IntKind.wrap .u32 (c.PC_ + 4), c.EPC_, c.Cause_, c.State_, c.Why_, c.Steps_, c.Taken_, c.Out_ ++ [⟨n, IntKind.wrap .i32 y⟩], c.setup_, c.input_⟩
theorem wide_ok (I : Inv c m) {op : Int} (ho : op = 3 ∨ op = 4 ∨ op = 34 ∨ op = 26 ∨ op = 30 ∨ op = 33) (ha : Rg a) (hb : Rg b) (hn : 0 ≤ n ∧ n < 65536) (hl : c.Out_.length ≤ 1000) :
    Res (fun i k H => cpu_Cpu_wide H (.at i 0) ⟨op, a, b, d, n⟩) ⟨op, a, b, d, n⟩ c m := by
  obtain ⟨x, hx⟩ : ∃ x, x = c.R_.g b.toNat := ⟨_, rfl⟩
  obtain ⟨y, hy⟩ : ∃ y, y = c.R_.g a.toNat := ⟨_, rfl⟩
  have g1 : ga c.R_ b = some x := by rw [hx]; exact ga' hb
  have g2 : ga c.R_ a = some y := by rw [hy]; exact ga' ha
  have wn : IntKind.wrap .u32 n = n := wrap_u32 n (by omega) (by omega)
  rcases ho with rfl | rfl | rfl | rfl | rfl | rfl
  · refine cut_out (c' := cSet c a (IntKind.wrap .u32 (IntKind.wrap .u32 n * 65536))) ?_ (I.set ha (u32_wrap _)) rfl fun i k => set_fin ha fun H A => ?_
    · unfold ref04_do
      show bind1 (ga c.R_ a) _ = _
      rw [g2, bind1_some]
      show bind1 (ga c.R_ b) _ = _
      rw [g1, bind1_some, if_neg (by simp [toI]), if_neg (by simp [toI]), if_neg (by simp [toI]), if_pos (by rfl)]
      show bind1 (ga c.R_ a) _ = _
      rw [g2, bind1_some]
      show bind1 (sa c.R_ a _) _ = _
      rw [sa' ha]; rfl
    · unfold cpu_Cpu_wide
      rw [if_pos (by rfl)]; exact b_id
  · refine cut_out (c' := cSet c a (bitsOf .or .u32 x (IntKind.wrap .u32 n))) ?_ (I.set ha (u32_bits _ _ _ ⟨_, rfl⟩)) rfl fun i k => set_fin ha fun H A => ?_
    · unfold ref04_do
      show bind1 (ga c.R_ a) _ = _
      rw [g2, bind1_some]
      show bind1 (ga c.R_ b) _ = _
      rw [g1, bind1_some, if_neg (by simp [toI]), if_neg (by simp [toI]), if_neg (by simp [toI]), if_neg (by simp [toI]), if_pos (by rfl)]
      show bind1 (ga c.R_ a) _ = _
      rw [g2, bind1_some]
      show bind1 (sa c.R_ a _) _ = _
      rw [sa' ha]; rfl
    · unfold cpu_Cpu_wide
      rw [if_neg (by simp), if_pos (by rfl), pbnd_at, A.c, bind1_some, g1, bind1_some]; exact b_id
  · refine cut_out (c' := cSet c a (bitsOf .xor .u32 x (IntKind.wrap .u32 n))) ?_ (I.set ha (u32_bits _ _ _ ⟨_, rfl⟩)) rfl fun i k => set_fin ha fun H A => ?_
    · unfold ref04_do
      show bind1 (ga c.R_ a) _ = _
      rw [g2, bind1_some]
      show bind1 (ga c.R_ b) _ = _
      rw [g1, bind1_some, if_neg (by simp [toI]), if_neg (by simp [toI]), if_neg (by simp [toI]), if_neg (by simp [toI]), if_neg (by simp [toI]), if_neg (by simp [toI]), if_pos (by rfl)]
      show bind1 (ga c.R_ a) _ = _
      rw [g2, bind1_some]
      show bind1 (sa c.R_ a _) _ = _
      rw [sa' ha]; rfl
    · unfold cpu_Cpu_wide
      rw [if_neg (by simp), if_neg (by simp), if_pos (by rfl), pbnd_at, A.c, bind1_some, g1, bind1_some]; exact b_id
  · by_cases q : y ≥ IntKind.wrap .u32 n
    · refine cut_out (c' := cTrap c (IntKind.wrap .u32 b)) (do_others (by simp) ha hb ?_) (I.trap (u32_wrap _)) (trap_out _) fun i k => trap_fin fun H A => ?_
      · unfold ref04_others
        rw [if_neg (by simp), if_neg (by simp), if_pos (by rfl), if_pos (by rw [← hy]; simpa using q), r_trap]; rfl
      · unfold cpu_Cpu_wide
        rw [if_neg (by simp), if_neg (by simp), if_neg (by simp), if_pos (by rfl), pbnd_at, A.c, bind1_some, g2, bind1_some, if_pos (by simpa using q)]; exact b_id
    · refine cut_out (c' := cNext c) (do_others (by simp) ha hb ?_) I.next rfl fun i k => next_to fun H A => ?_
      · unfold ref04_others
        rw [if_neg (by simp), if_neg (by simp), if_pos (by rfl), if_neg (by rw [← hy]; simpa using q)]; rfl
      · unfold cpu_Cpu_wide
        rw [if_neg (by simp), if_neg (by simp), if_neg (by simp), if_pos (by rfl), pbnd_at, A.c, bind1_some, g2, bind1_some, if_neg (by simpa using q)]; rfl
  · refine ⟨cOut c n y, m, do_others (r := cOut c n y) (by simp) ha hb ?_, ⟨I.regs, u32_wrap _, I.epc, I.ca, I.tk, I.il, I.st, I.ws, I.wl, I.sk⟩, rfl, by show (c.Out_ ++ [_]).length ≤ _; simp, fun i k H A => ?_⟩
    · unfold ref04_others
      rw [if_neg (by simp), if_neg (by simp), if_neg (by simp), if_neg (by simp), if_neg (by simp), if_neg (by simp), if_pos (by rfl), ← hy]
      have o1 : app 16 ([] : List T_api_Event) (toR c).Out_ = some c.Out_ := by
        show app 16 ([] : List T_api_Event) c.Out_ = some c.Out_
        rw [app_some (by simp; omega)]; rfl
      rw [o1, bind1_some, app_some (by simp; omega)]; rfl
    · obtain ⟨A1, f1⟩ := A.setC ⟨c.R_, c.PC_, c.EPC_, c.Cause_, c.State_, c.Why_, c.Steps_, c.Taken_, c.Out_ ++ [⟨n, IntKind.wrap .i32 y⟩], c.setup_, c.input_⟩
      obtain ⟨A2, f2⟩ := A1.setC (cOut c n y)
      refine ⟨_, ?_, A2, f1.trans f2⟩
      show cpu_Cpu_wide H (.at i 0) _ = _
      unfold cpu_Cpu_wide
      rw [if_neg (by simp), if_neg (by simp), if_neg (by simp), if_neg (by simp), if_pos (by rfl), pbnd_at, A.c, bind1_some, g2, bind1_some, app_some (by simp; omega)]; rfl
  · have pg : ∀ H i, cpu_Cpu_wide H (.at i 0) ⟨33, a, b, d, n⟩ = cpu_Cpu_special H (.at i 0) ⟨33, a, b, d, n⟩ := fun H i => by
      unfold cpu_Cpu_wide
      rw [if_neg (by simp), if_neg (by simp), if_neg (by simp), if_neg (by simp), if_neg (by simp)]; exact b_id
    have s1 : ∀ v, sa c.R_ a v = some (c.R_.put a.toNat v) := fun v => sa' ha
    by_cases n0 : n = 0
    · subst n0
      refine cut_out (c' := cSet c a c.EPC_) (do_others (by simp) ha hb ?_) (I.set ha I.epc) rfl fun i k => set_fin ha fun H A => ?_
      · unfold ref04_others
        rw [if_neg (by simp), if_neg (by simp), if_neg (by simp), if_neg (by simp), if_neg (by simp), if_neg (by simp), if_neg (by simp), if_neg (by simp), if_neg (by simp), if_pos (by rfl), if_neg (by simp)]
        show bind1 (ga c.R_ a) _ = _
        rw [g2, bind1_some]
        show bind1 (sa c.R_ a c.EPC_) _ = _
        rw [s1]; rfl
      · rw [pg]
        unfold cpu_Cpu_special
        rw [if_pos (by rfl), pbnd_at, A.c, bind1_some]; exact b_id
    · by_cases n1 : n = 1
      · subst n1
        refine cut_out (c' := cSet c a c.Cause_) (do_others (by simp) ha hb ?_) (I.set ha I.ca) rfl fun i k => set_fin ha fun H A => ?_
        · unfold ref04_others
          rw [if_neg (by simp), if_neg (by simp), if_neg (by simp), if_neg (by simp), if_neg (by simp), if_neg (by simp), if_neg (by simp), if_neg (by simp), if_neg (by simp), if_pos (by rfl), if_neg (by simp)]
          show bind1 (ga c.R_ a) _ = _
          rw [g2, bind1_some]
          show bind1 (sa c.R_ a c.EPC_) _ = _
          rw [s1, bind1_some, if_pos (by rfl)]
          show bind1 (ga (c.R_.put a.toNat c.EPC_) a) _ = _
          rw [ga' ha, bind1_some]
          show bind1 (sa (c.R_.put a.toNat c.EPC_) a c.Cause_) _ = _
          rw [sa' ha, put_put]; rfl
        · rw [pg]
          unfold cpu_Cpu_special
          rw [if_neg (by simp), if_pos (by rfl), pbnd_at, A.c, bind1_some]; exact b_id
      · refine cut_out (c' := cFault c 20) (do_others (by simp) ha hb ?_) (I.fault _) rfl fun i k H A => ?_
        · unfold ref04_others
          rw [if_neg (by simp), if_neg (by simp), if_neg (by simp), if_neg (by simp), if_neg (by simp), if_neg (by simp), if_neg (by simp), if_neg (by simp), if_neg (by simp), if_pos (by rfl), if_pos (by simp; omega)]; rfl
        · obtain ⟨H1, e1, A1⟩ := fault_to 20 H A
          refine ⟨H1, ?_, A1⟩
          show cpu_Cpu_wide H (.at i 0) _ = _
          rw [pg]
          unfold cpu_Cpu_special
          rw [if_neg (by simpa using n0), if_neg (by simpa using n1)]; exact (b_id (q := bind1 _ _)).symm.trans (by rw [b_id]; exact b_id.trans e1)
theorem rest_ok (I : Inv c m) {op : Int} (ho : op = 1 ∨ op = 24 ∨ op = 25 ∨ op = 27 ∨ op = 28 ∨ op = 29 ∨ op = 31 ∨ op = 32) (ha : Rg a) (hb : Rg b) (hn : 0 ≤ n ∧ n < 65536) :
    Res (fun i k H => cpu_Cpu_rest H (.at i 0) ⟨op, a, b, d, n⟩) ⟨op, a, b, d, n⟩ c m := by
  obtain ⟨y, hy⟩ : ∃ y, y = c.R_.g a.toNat := ⟨_, rfl⟩
  have g1 : ga c.R_ b = some (c.R_.g b.toNat) := ga' hb
  have g2 : ga c.R_ a = some y := by rw [hy]; exact ga' ha
  have uy : u32 y := by rw [hy]; exact ureg I ha
  rcases ho with rfl | rfl | rfl | rfl | rfl | rfl | rfl | rfl
  · refine cut_out (c' := ⟨c.R_, c.PC_, c.EPC_, c.Cause_, 1, c.Why_, c.Steps_, c.Taken_, c.Out_, c.setup_, c.input_⟩) ?_ ⟨I.regs, I.pc, I.epc, I.ca, I.tk, I.il, I.st, I.ws, I.wl, I.sk⟩ rfl fun i k => next_to fun H A => ?_
    · unfold ref04_do
      show bind1 (ga c.R_ a) _ = _
      rw [g2, bind1_some]
      show bind1 (ga c.R_ b) _ = _
      rw [g1, bind1_some, if_neg (by simp [toI]), if_pos (by rfl)]; rfl
    · unfold cpu_Cpu_rest
      rw [if_pos (by rfl), pbnd_at, A.c, bind1_some]; rfl
  · refine cut_out (c' := ⟨c.R_, y, c.EPC_, c.Cause_, c.State_, c.Why_, c.Steps_, c.Taken_, c.Out_, c.setup_, c.input_⟩) (do_others (by simp) ha hb ?_) ⟨I.regs, uy, I.epc, I.ca, I.tk, I.il, I.st, I.ws, I.wl, I.sk⟩ rfl fun i k => next_to fun H A => ?_
    · rw [← hy]; rfl
    · unfold cpu_Cpu_rest
      rw [if_neg (by simp), if_pos (by rfl), pbnd_at, A.c, bind1_some, g2]; rfl
  · refine cut_out (c' := ⟨c.R_.put 14 (IntKind.wrap .u32 (c.PC_ + 4)), y, c.EPC_, c.Cause_, c.State_, c.Why_, c.Steps_, c.Taken_, c.Out_, c.setup_, c.input_⟩) (do_others (by simp) ha hb ?_) ⟨regs_put I.regs (by decide) (u32_wrap _), uy, I.epc, I.ca, I.tk, I.il, I.st, I.ws, I.wl, I.sk⟩ rfl fun i k H A => ?_
    · rw [← hy]
      unfold ref04_others
      rw [if_neg (by simp), if_pos (by rfl)]
      show some _ = _
      have e : (arrL [c.R_.g 0, c.R_.g 1, c.R_.g 2, c.R_.g 3, c.R_.g 4, c.R_.g 5, c.R_.g 6, c.R_.g 7, c.R_.g 8, c.R_.g 9, c.R_.g 10, c.R_.g 11, c.R_.g 12, c.R_.g 13, IntKind.wrap .u32 (c.PC_ + 4), c.R_.g 15] : Arr 16 Int) = c.R_.put 14 (IntKind.wrap .u32 (c.PC_ + 4)) := arr16_put _ _
      rw [← e]; rfl
    · obtain ⟨A1, f1⟩ := A.setC ⟨c.R_.put 14 (IntKind.wrap .u32 (c.PC_ + 4)), c.PC_, c.EPC_, c.Cause_, c.State_, c.Why_, c.Steps_, c.Taken_, c.Out_, c.setup_, c.input_⟩
      obtain ⟨A2, f2⟩ := A1.setC ⟨c.R_.put 14 (IntKind.wrap .u32 (c.PC_ + 4)), y, c.EPC_, c.Cause_, c.State_, c.Why_, c.Steps_, c.Taken_, c.Out_, c.setup_, c.input_⟩
      refine ⟨_, ?_, A2, f1.trans f2⟩
      show cpu_Cpu_rest H (.at i 0) _ = _
      unfold cpu_Cpu_rest
      rw [if_neg (by simp), if_neg (by simp), if_pos (by rfl), pbnd_at, A.c, bind1_some, g2, bind1_some, bnd_def, bnd_def, arr16_put]; rfl
  · refine cut_out (c' := if (y != 0) = true then cNext c else cTrap c 2) (do_others (by simp) ha hb ?_) ?_ ?_ fun i k => chk_fin fun H A => ?_
    · rw [← hy]
      unfold ref04_others
      rw [if_neg (by simp), if_neg (by simp), if_neg (by simp), if_pos (by rfl)]
      by_cases y0 : y = 0
      · rw [if_pos (by simpa using y0), if_neg (by simpa using y0), r_trap]; rfl
      · rw [if_neg (by simpa using y0), if_pos (by simpa using y0)]; rfl
    · split
      · exact I.next
      · exact I.trap ⟨by decide, by decide⟩
    · split
      · rfl
      · exact trap_out _
    · unfold cpu_Cpu_rest
      rw [if_neg (by simp), if_neg (by simp), if_neg (by simp), if_pos (by rfl), pbnd_at, A.c, bind1_some, g2, bind1_some]; exact b_id
  · refine cut_out (c' := cTrap c (IntKind.wrap .u32 n)) (do_others (by simp) ha hb ?_) (I.trap (u32_wrap _)) (trap_out _) fun i k => trap_fin fun H A => ?_
    · unfold ref04_others
      rw [if_neg (by simp), if_neg (by simp), if_neg (by simp), if_neg (by simp), if_pos (by rfl), r_trap]; rfl
    · unfold cpu_Cpu_rest
      rw [if_neg (by simp), if_neg (by simp), if_neg (by simp), if_neg (by simp), if_pos (by rfl)]; exact b_id
  · refine cut_out (c' := cTrap c y) (do_others (by simp) ha hb ?_) (I.trap uy) (trap_out _) fun i k => trap_fin fun H A => ?_
    · rw [← hy]
      unfold ref04_others
      rw [if_neg (by simp), if_neg (by simp), if_neg (by simp), if_neg (by simp), if_neg (by simp), if_pos (by rfl), r_trap]; rfl
    · unfold cpu_Cpu_rest
      rw [if_neg (by simp), if_neg (by simp), if_neg (by simp), if_neg (by simp), if_neg (by simp), if_pos (by rfl), pbnd_at, A.c, bind1_some, g2, bind1_some]; exact b_id
  · obtain ⟨t0, t1⟩ := I.tk
    have il := I.il
    by_cases q : c.Taken_ ≥ (c.input_.length : Int)
    · refine cut_out (c' := cTrap c 7) (do_others (by simp) ha hb ?_) (I.trap ⟨by decide, by decide⟩) (trap_out _) fun i k => trap_fin fun H A => ?_
      · unfold ref04_others
        rw [if_neg (by simp), if_neg (by simp), if_neg (by simp), if_neg (by simp), if_neg (by simp), if_neg (by simp), if_neg (by simp), if_pos (by rfl), if_pos (show decide ((toR c).Taken_ ≥ ((toR c).Input_.length : Int)) = true from (decide_eq_true q : decide (c.Taken_ ≥ (c.input_.length : Int)) = true)), r_trap]; rfl
      · unfold cpu_Cpu_rest
        rw [if_neg (by simp), if_neg (by simp), if_neg (by simp), if_neg (by simp), if_neg (by simp), if_neg (by simp), if_pos (by rfl), pbnd_at, A.c, bind1_some, if_pos (by simpa using q)]; exact b_id
    · have wt : IntKind.wrap .i64 (c.Taken_ + 1) = c.Taken_ + 1 := wrap_i64 _ (by omega) (by omega)
      have wt2 : IntKind.wrap .i64 (c.Taken_ + 1 - 1) = c.Taken_ := by rw [wrap_i64 _ (by omega) (by omega)]; omega
      obtain ⟨x, hx⟩ : ∃ x, gi c.input_ c.Taken_ = some x := ⟨_, gi_some (by omega) (by omega)⟩
      refine cut_out (c' := ⟨c.R_.put a.toNat (IntKind.wrap .u32 x), IntKind.wrap .u32 (c.PC_ + 4), c.EPC_, c.Cause_, c.State_, c.Why_, c.Steps_, c.Taken_ + 1, c.Out_, c.setup_, c.input_⟩) (do_others (by simp) ha hb ?_) ⟨regs_put I.regs (by unfold Rg at ha; omega) (u32_wrap _), u32_wrap _, I.epc, I.ca, ⟨by show 0 ≤ c.Taken_ + 1; omega, by show c.Taken_ + 1 ≤ c.input_.length; omega⟩, I.il, I.st, I.ws, I.wl, I.sk⟩ rfl fun i k H A => ?_
      · unfold ref04_others
        rw [if_neg (by simp), if_neg (by simp), if_neg (by simp), if_neg (by simp), if_neg (by simp), if_neg (by simp), if_neg (by simp), if_pos (by rfl), if_neg (show ¬ decide ((toR c).Taken_ ≥ ((toR c).Input_.length : Int)) = true from (fun h => q (of_decide_eq_true h) : ¬ decide (c.Taken_ ≥ (c.input_.length : Int)) = true))]
        show bind1 (gi c.input_ c.Taken_) _ = _
        rw [hx, bind1_some]
        show bind1 (ga c.R_ a) _ = _
        rw [g2, bind1_some]
        show bind1 (sa c.R_ a _) _ = _
        rw [sa' ha, bind1_some]
        show some _ = _
        have : IntKind.wrap .i64 ((toR c).Taken_ + 1) = c.Taken_ + 1 := wt
        rw [this]; rfl
      · obtain ⟨A1, f1⟩ := A.setC ⟨c.R_, c.PC_, c.EPC_, c.Cause_, c.State_, c.Why_, c.Steps_, c.Taken_ + 1, c.Out_, c.setup_, c.input_⟩
        obtain ⟨H2, e2, A2, f2⟩ := set_to ha (IntKind.wrap .u32 x) _ A1
        refine ⟨H2, ?_, A2, f1.trans f2⟩
        show cpu_Cpu_rest H (.at i 0) _ = _
        unfold cpu_Cpu_rest
        rw [if_neg (by simp), if_neg (by simp), if_neg (by simp), if_neg (by simp), if_neg (by simp), if_neg (by simp), if_pos (by rfl), pbnd_at, A.c, bind1_some, if_neg (by simpa using q), bnd_def, wt, wt2, hx, bind1_some]
        exact b_id.trans e2
  · refine cut_out (c' := if (decide (IntKind.wrap .i32 y ≥ IntKind.wrap .i32 c.setup_.Limit_)) = true then cNext c else cTrap c 5) (do_others (by simp) ha hb ?_) ?_ ?_ fun i k => chk_fin fun H A => ?_
    · rw [← hy]
      unfold ref04_others
      rw [if_neg (by simp), if_neg (by simp), if_neg (by simp), if_neg (by simp), if_neg (by simp), if_neg (by simp), if_neg (by simp), if_neg (by simp), if_pos (by rfl)]
      by_cases y0 : IntKind.wrap .i32 y ≥ IntKind.wrap .i32 c.setup_.Limit_
      · rw [if_neg (show ¬ decide (IntKind.wrap .i32 y < IntKind.wrap .i32 (toR c).Limit_) = true from (by simp; omega : ¬ decide (IntKind.wrap .i32 y < IntKind.wrap .i32 c.setup_.Limit_) = true)), if_pos (by simpa using y0)]; rfl
      · rw [if_pos (show decide (IntKind.wrap .i32 y < IntKind.wrap .i32 (toR c).Limit_) = true from (by simp; omega : decide (IntKind.wrap .i32 y < IntKind.wrap .i32 c.setup_.Limit_) = true)), if_neg (by simpa using y0), r_trap]; rfl
    · split
      · exact I.next
      · exact I.trap ⟨by decide, by decide⟩
    · split
      · rfl
      · exact trap_out _
    · unfold cpu_Cpu_rest
      rw [if_neg (by simp), if_neg (by simp), if_neg (by simp), if_neg (by simp), if_neg (by simp), if_neg (by simp), if_neg (by simp), pbnd_at, A.c, bind1_some, g2, bind1_some]; exact b_id
end
end Go.Proofs.Abs
/- The two machines, side by side: a step. -/
namespace Go.Proofs.Abs
open Go
set_option linter.unusedVariables false
set_option linter.unusedSimpArgs false
section
variable {c : T_cpu_Cpu} {m : T_memory_Mem}
/-- what is fetched -/
def ftV (m : T_memory_Mem) (p : Int) : Int × Int := if (ldV m p).2 ≠ 0 then (0, (ldV m p).2) else if p ≥ m.layout_.Code_ then (0, 31) else ((ldV m p).1, 0)
theorem ftV_u32 (I : Inv c m) (p : Int) : u32 (ftV m p).1 := by
  unfold ftV
  have z : u32 0 := ⟨by decide, by decide⟩
  split
  · exact z
  · split
    · exact z
    · exact ldV_u32 I
theorem fetch_spec {H : Heap} {i k : Nat} {p : Int} (A : At H i k c m) (hp : u32 p) (hk : (m.words_.length : Int) * 4 = m.layout_.Stack_) : memory_Mem_Fetch H (.at k 0) p = some (ftV m p) := by
  have hp' := hp
  unfold u32 at hp
  unfold memory_Mem_Fetch ftV
  rw [place_spec A hp' hk]
  by_cases c1 : p % 4 = 0
  · by_cases c2 : p ≥ m.layout_.Stack_
    · rw [if_neg (by simpa using c1), if_pos c2, bind2_some, if_pos (by simp), ldV_2 c1 c2, if_pos (by simp)]
    · rw [if_neg (by simpa using c1), if_neg c2, bind2_some, if_neg (by simp), pbnd_at, A.m, bind1_some, ldV_3 c1 c2, if_neg (show ¬ (m.words_[(p / 4).toNat]?.getD 0, (0 : Int)).2 ≠ 0 by simp)]
      by_cases c3 : p ≥ m.layout_.Code_
      · rw [if_pos (by simpa using c3), if_pos c3]
      · rw [if_neg (by simpa using c3), if_neg c3, gi_words hp' hk c2, bind1_some]
  · rw [if_pos c1, bind2_some, if_pos (by simp), ldV_1 c1, if_pos (by simp)]
theorem r_fetch {p : Int} (hp : u32 p) (hk : (m.words_.length : Int) * 4 = m.layout_.Stack_) : ref03_Fetch (toM m) p = some (ftV m p) := by
  unfold ref03_Fetch ftV
  rw [r_load hp hk]
  have e : ∀ q : Int × Int, bind2 (some q) (fun r1 r2 => if ((r2 == 0) && (decide (p ≥ ((toM m).Ends_.g 0)))) = true then (some (0, 31)) else (some (r1, r2))) = if ((q.2 == 0) && (decide (p ≥ ((toM m).Ends_.g 0)))) = true then some (0, 31) else some (q.1, q.2) := fun q => rfl
  rw [e]
  have e1 : (toM m).Ends_.g 0 = m.layout_.Code_ := rfl
  rw [e1]
  by_cases c0 : (ldV m p).2 = 0
  · rw [if_neg (show ¬ (ldV m p).2 ≠ 0 by simpa using c0), c0]
    by_cases c3 : p ≥ m.layout_.Code_
    · rw [if_pos (by simpa using c3), if_pos c3]
    · rw [if_neg (by simpa using c3), if_neg c3]
  · rw [if_neg (by simp [c0]), if_pos (show (ldV m p).2 ≠ 0 from c0)]
    by_cases c1 : p % 4 = 0
    · by_cases c2 : p ≥ m.layout_.Stack_
      · rw [ldV_2 c1 c2]
      · rw [ldV_3 c1 c2] at c0; exact absurd rfl c0
    · rw [ldV_1 c1]
theorem dispatch (I : Inv c m) (hl : c.Out_.length ≤ 1000) {x : T_instr_Instr} {sh : Int} (ra : Rg x.A_) (rb : Rg x.B_) (rd : Rg x.C_) (im : imP sh x.Imm_)
    (hs : sh = 0 ∧ x.Op_ = 1 ∨ sh = 1 ∧ (x.Op_ = 2 ∨ x.Op_ = 20 ∨ x.Op_ = 21) ∨ sh = 2 ∧ (x.Op_ = 3 ∨ x.Op_ = 30 ∨ x.Op_ = 33) ∨ sh = 3 ∧ (x.Op_ = 5 ∨ x.Op_ = 18 ∨ x.Op_ = 19) ∨ sh = 4 ∧ (x.Op_ = 4 ∨ x.Op_ = 26 ∨ x.Op_ = 34) ∨ sh = 5 ∧ 6 ≤ x.Op_ ∧ x.Op_ ≤ 17 ∨ sh = 6 ∧ (x.Op_ = 24 ∨ x.Op_ = 25 ∨ x.Op_ = 27 ∨ x.Op_ = 29 ∨ x.Op_ = 31 ∨ x.Op_ = 32) ∨ sh = 7 ∧ (x.Op_ = 22 ∨ x.Op_ = 23) ∨ sh = 8 ∧ x.Op_ = 28) :
    ∃ f, Res f x c m ∧ ∀ H i k, (if (sh == 5) = true then (bind1 (cpu_Cpu_reckon H (Ptr.at i 0) x) fun H33 => cpu_Cpu_Step_j1 i 0 H33) else (if (sh == 3) = true then (cpu_Cpu_Step_j2 H i 0 (.at k 0) x sh (sh == 3)) else (if (sh == 1) = true then (cpu_Cpu_Step_j6 H i 0 (.at k 0) x sh (sh == 1)) else (cpu_Cpu_Step_j6 H i 0 (.at k 0) x sh (sh == 7))))) = bind1 (f i k H) fun H33 => cpu_Cpu_Step_j1 i 0 H33 := by
  unfold imP at im
  rcases hs with ⟨rfl, h⟩ | ⟨rfl, h⟩ | ⟨rfl, h⟩ | ⟨rfl, h⟩ | ⟨rfl, h⟩ | ⟨rfl, h⟩ | ⟨rfl, h⟩ | ⟨rfl, h⟩ | ⟨rfl, h⟩
  · exact ⟨_, rest_ok I (.inl h) ra rb (by omega), fun H i k => rfl⟩
  · exact ⟨_, moves_ok I (by omega) ra rb (by omega), fun H i k => rfl⟩
  · exact ⟨_, wide_ok I (by omega) ra rb (by omega) hl, fun H i k => rfl⟩
  · exact ⟨_, moves_ok I (by omega) ra rb (by omega), fun H i k => rfl⟩
  · exact ⟨_, wide_ok I (by omega) ra rb (by omega) hl, fun H i k => rfl⟩
  · exact ⟨_, reckon_ok I h ra rb rd, fun H i k => rfl⟩
  · exact ⟨_, rest_ok I (by omega) ra rb (by omega), fun H i k => rfl⟩
  · exact ⟨_, moves_ok I (by omega) ra rb (by omega), fun H i k => rfl⟩
  · exact ⟨_, rest_ok I (by omega) ra rb (by omega), fun H i k => rfl⟩
/-- a step -/
theorem step_ok (I : Inv c m) (hl : c.Out_.length ≤ 1000) : ∃ c' m', ref04_Step (toR c) (toM m) = some (toR c', toM m') ∧ Inv c' m' ∧ m'.layout_ = m.layout_ ∧ c'.Out_.length ≤ c.Out_.length + 1 ∧
    ∀ i k H, At H i k c m → ∃ H', cpu_Cpu_Step H (.at i 0) (.at k 0) = some (H', c'.State_) ∧ At H' i k c' m' ∧ Fr H H' i k := by
  unfold ref04_Step
  by_cases s0 : c.State_ = 0
  · obtain ⟨c1, hc1⟩ : ∃ c1 : T_cpu_Cpu, c1 = ⟨c.R_, c.PC_, c.EPC_, c.Cause_, c.State_, c.Why_, IntKind.wrap .i64 (c.Steps_ + 1), c.Taken_, c.Out_, c.setup_, c.input_⟩ := ⟨_, rfl⟩
    have I1 : Inv c1 m := by rw [hc1]; exact ⟨I.regs, I.pc, I.epc, I.ca, I.tk, I.il, I.st, I.ws, I.wl, I.sk⟩
    have l1 : c1.Out_ = c.Out_ := by rw [hc1]
    have p1 : c1.PC_ = c.PC_ := by rw [hc1]
    rw [if_neg (show ¬ ((toR c).State_ != 0) = true by show ¬ (c.State_ != 0) = true; simpa using s0)]
    have e1 : (⟨(toR c).R_, (toR c).PC_, (toR c).EPC_, (toR c).Cause_, (toR c).State_, (toR c).Why_, IntKind.wrap .i64 ((toR c).Steps_ + 1), (toR c).Taken_, (toR c).Out_, (toR c).Entry_, (toR c).Vector_, (toR c).Guard_, (toR c).Limit_, (toR c).Input_⟩ : T_ref04_Cpu) = toR c1 := by rw [hc1]; rfl
    rw [e1]
    show ∃ c' m', bind2 (ref03_Fetch (toM m) c.PC_) _ = _ ∧ _
    rw [r_fetch I.pc I.wl]
    have pg : ∀ i k H, At H i k c m → ∃ H7, At H7 i k c1 m ∧ Fr H H7 i k ∧ cpu_Cpu_Step H (.at i 0) (.at k 0) = bind2 (some (ftV m c.PC_)) fun r10 r11 =>
        if (r11 != 0) = true then (bind1 (cpu_Cpu_fault H7 (Ptr.at i 0) r11) fun H15 => cpu_Cpu_Step_j1 i 0 H15) else (bind2 (instr_Decode r10) fun r18 r19 =>
        if (r19 != 0) = true then (bind1 (cpu_Cpu_fault H7 (Ptr.at i 0) r19) fun H23 => cpu_Cpu_Step_j1 i 0 H23) else (bind1 (instr_Shape r18.Op_) fun r26 =>
        if (r26 == 5) = true then (bind1 (cpu_Cpu_reckon H7 (Ptr.at i 0) r18) fun H33 => cpu_Cpu_Step_j1 i 0 H33) else (if (r26 == 3) = true then (cpu_Cpu_Step_j2 H7 i 0 (.at k 0) r18 r26 (r26 == 3)) else (if (r26 == 1) = true then (cpu_Cpu_Step_j6 H7 i 0 (.at k 0) r18 r26 (r26 == 1)) else (cpu_Cpu_Step_j6 H7 i 0 (.at k 0) r18 r26 (r26 == 7)))))) := fun i k H A => by
      obtain ⟨A1, f1⟩ := A.setC c1
      refine ⟨_, A1, f1, ?_⟩
      rw [← fetch_spec A1 I.pc I1.wl]
      unfold cpu_Cpu_Step
      rw [pbnd_at, A.c, bind1_some, if_neg (by simpa using s0), bnd_def, hc1]; rfl
    have fl : ∀ e i k H, At H i k c m → ∀ H7, At H7 i k c1 m → Fr H H7 i k → ∃ H', (bind1 (cpu_Cpu_fault H7 (Ptr.at i 0) e) fun H15 => cpu_Cpu_Step_j1 i 0 H15) = some (H', (cFault c1 e).State_) ∧ At H' i k (cFault c1 e) m ∧ Fr H H' i k := fun e i k H A H7 A7 f7 => by
      obtain ⟨H1, e1, A1, f1⟩ := fault_to e H7 A7
      refine ⟨H1, ?_, A1, f7.trans f1⟩
      have e1 : cpu_Cpu_fault H7 (.at i 0) e = some H1 := e1
      rw [e1, bind1_some]
      unfold cpu_Cpu_Step_j1
      rw [A1.c]; rfl
    obtain ⟨w, e, hw⟩ : ∃ w e, ftV m c.PC_ = (w, e) := ⟨_, _, rfl⟩
    have uw : u32 w := by have := ftV_u32 I c.PC_; rw [hw] at this; exact this
    rw [hw] at pg ⊢
    by_cases e0 : e = 0
    · rw [bind2_some, if_neg (by simpa using e0)]
      unfold u32 at uw
      obtain ⟨sh, hs, hr, hd⟩ := shape_ex (op := w / 16777216) (by omega) (by omega)
      have h128 : sh ≠ -1 → w / 16777216 < 128 := by omega
      have sr : shR sh := by unfold shR; omega
      rw [rdec uw.1 uw.2 hr sr h128]
      have pd := pdec uw.1 uw.2 hs sr h128
      by_cases ok : dvOk w sh
      · rw [if_pos ok] at pd ⊢
        rw [bind2_some, if_neg (by simp)]
        obtain ⟨q0, q1, q2, q3, q4, q5, q6, q7⟩ := dvI_regs (sh := sh) uw.1 uw.2
        have hd : _ := hd.resolve_left ok.1
        rw [← q0] at hd
        obtain ⟨f, ⟨c', m', r1, r2, r3, r4, r5⟩, hf⟩ := dispatch (m := m) I1 (by rw [l1]; exact hl) ⟨q1, q2⟩ ⟨q3, q4⟩ ⟨q5, q6⟩ (dvI_im uw.1 sr ok.1) hd
        refine ⟨c', m', ?_, r2, r3, by rw [l1] at r4; exact r4, fun i k H A => ?_⟩
        · show bind2 (ref04_do (toR c1) (toM m) (toI (dvI w sh))) _ = _
          rw [r1]; rfl
        · obtain ⟨H7, A7, f7, pe⟩ := pg i k H A
          obtain ⟨H1, e1, A1, f1⟩ := r5 i k H7 A7
          refine ⟨H1, ?_, A1, f7.trans f1⟩
          rw [pe, bind2_some, if_neg (by simpa using e0), pd, bind2_some, if_neg (by simp), q0, hs, bind1_some, hf, e1, bind1_some]
          unfold cpu_Cpu_Step_j1
          rw [A1.c]; rfl
      · rw [if_neg ok] at pd ⊢
        rw [bind2_some, if_pos (by simp)]
        refine ⟨cFault c1 21, m, rfl, I1.fault _, rfl, by show c1.Out_.length ≤ _; rw [l1]; omega, fun i k H A => ?_⟩
        obtain ⟨H7, A7, f7, pe⟩ := pg i k H A
        rw [pe, bind2_some, if_neg (by simpa using e0), pd, bind2_some, if_pos (by simp)]
        exact fl _ i k H A H7 A7 f7
    · rw [bind2_some, if_pos (by simpa using e0)]
      refine ⟨cFault c1 e, m, rfl, I1.fault _, rfl, by show c1.Out_.length ≤ _; rw [l1]; omega, fun i k H A => ?_⟩
      obtain ⟨H7, A7, f7, pe⟩ := pg i k H A
      rw [pe, bind2_some, if_pos (by simpa using e0)]
      exact fl _ i k H A H7 A7 f7
  · rw [if_pos (show ((toR c).State_ != 0) = true by show (c.State_ != 0) = true; simpa using s0)]
    refine ⟨c, m, rfl, I, rfl, by omega, fun i k H A => ⟨H, ?_, A, Fr.refl _ _ _⟩⟩
    unfold cpu_Cpu_Step
    rw [pbnd_at, A.c, bind1_some, if_pos (by simpa using s0)]
end
end Go.Proofs.Abs
/- Both machines, begun; what is the same; the page's example. -/
namespace Go.Proofs.Abs
open Go
set_option linter.unusedVariables false
set_option linter.unusedSimpArgs false
theorem toR_inj {c d : T_cpu_Cpu} (h : toR c = toR d) : c = d := by
  obtain ⟨R, a, b, e, f, g, k, l, o, ⟨s1, s2, s3, s4⟩, n⟩ := c
  obtain ⟨R', a', b', e', f', g', k', l', o', ⟨s1', s2', s3', s4'⟩, n'⟩ := d
  simp only [toR, T_ref04_Cpu.mk.injEq] at h
  obtain ⟨rfl, rfl, rfl, rfl, rfl, rfl, rfl, rfl, rfl, rfl, rfl, rfl, rfl, rfl⟩ := h
  rfl
theorem toM_inj {m n : T_memory_Mem} (h : toM m = toM n) : m = n := by
  obtain ⟨⟨a, b, c, d, e⟩, w⟩ := m
  obtain ⟨⟨a', b', c', d', e'⟩, w'⟩ := n
  simp only [toM, T_ref03_Mem.mk.injEq, endsM] at h
  obtain ⟨h, rfl⟩ := h
  have g : ∀ q, (arrL [a, b, c, d, e] : Arr 5 Int).g q = (arrL [a', b', c', d', e'] : Arr 5 Int).g q := fun q => by rw [h]
  have g0 : a = a' := g 0
  have g1 : b = b' := g 1
  have g2 : c = c' := g 2
  have g3 : d = d' := g 3
  have g4 : e = e' := g 4
  rw [g0, g1, g2, g3, g4]
def Good (q : T_cpu_Cpu × T_memory_Mem) (n : Nat) : Prop := Inv q.1 q.2 ∧ q.1.Out_.length + n ≤ 1001
/-- a step leads from one to the other -/
structure StepP (q r : T_cpu_Cpu × T_memory_Mem) : Prop where
  ref : ref04_Step (toR q.1) (toM q.2) = some (toR r.1, toM r.2)
  inv : Inv r.1 r.2
  lay : r.2.layout_ = q.2.layout_
  out : r.1.Out_.length ≤ q.1.Out_.length + 1
  run : ∀ i k H, At H i k q.1 q.2 → ∃ H', cpu_Cpu_Step H (.at i 0) (.at k 0) = some (H', r.1.State_) ∧ At H' i k r.1 r.2 ∧ Fr H H' i k
open Classical in
noncomputable def nx (q : T_cpu_Cpu × T_memory_Mem) : T_cpu_Cpu × T_memory_Mem := if h : ∃ r, StepP q r then h.choose else q
noncomputable def nxn : Nat → T_cpu_Cpu × T_memory_Mem → T_cpu_Cpu × T_memory_Mem
  | 0, q => q
  | n + 1, q => nxn n (nx q)
theorem nx_ok {q : T_cpu_Cpu × T_memory_Mem} {n : Nat} (G : Good q (n + 1)) : StepP q (nx q) ∧ Good (nx q) n := by
  obtain ⟨c', m', h1, h2, h3, h4, h5⟩ := step_ok G.1 (by have := G.2; omega)
  have h : ∃ r, StepP q r := ⟨(c', m'), ⟨h1, h2, h3, h4, h5⟩⟩
  have e : nx q = h.choose := by unfold nx; rw [dif_pos h]
  have P := h.choose_spec
  rw [← e] at P
  exact ⟨P, P.inv, by have := P.out; have := G.2; omega⟩
theorem nx_eq {q r : T_cpu_Cpu × T_memory_Mem} {n : Nat} (G : Good q (n + 1)) (h : ref04_Step (toR q.1) (toM q.2) = some (toR r.1, toM r.2)) : nx q = r := by
  have P := (nx_ok G).1.ref
  rw [h] at P
  simp only [Option.some.injEq, Prod.mk.injEq] at P
  exact Prod.ext (toR_inj P.1).symm (toM_inj P.2).symm
theorem nx_halt {q : T_cpu_Cpu × T_memory_Mem} {n : Nat} (G : Good q (n + 1)) (h : q.1.State_ ≠ 0) : nx q = q := by
  refine nx_eq G ?_
  unfold ref04_Step
  rw [if_pos (show ((toR q.1).State_ != 0) = true by show (q.1.State_ != 0) = true; simpa using h)]
theorem nxn_halt {q : T_cpu_Cpu × T_memory_Mem} : ∀ {n : Nat}, Good q n → q.1.State_ ≠ 0 → nxn n q = q
  | 0, G, h => rfl
  | n + 1, G, h => by
    show nxn n (nx q) = q
    rw [nx_halt G h]
    exact nxn_halt ⟨G.1, by have := G.2; omega⟩ h
theorem nxn_add (b : Nat) : ∀ (a : Nat) (q : T_cpu_Cpu × T_memory_Mem), nxn (a + b) q = nxn b (nxn a q)
  | 0, q => by rw [Nat.zero_add]; rfl
  | a + 1, q => by rw [show a + 1 + b = (a + b) + 1 by omega]; exact nxn_add b a (nx q)
theorem nxn_good {b : Nat} : ∀ {a : Nat} {q : T_cpu_Cpu × T_memory_Mem}, Good q (a + b) → Good (nxn a q) b ∧ (nxn a q).2.layout_ = q.2.layout_
  | 0, q, G => ⟨by rw [Nat.zero_add] at G; exact G, rfl⟩
  | a + 1, q, G => by
    obtain ⟨P, G1⟩ := nx_ok (n := a + b) (q := q) (by rw [show a + b + 1 = a + 1 + b by omega]; exact G)
    obtain ⟨h1, h2⟩ := nxn_good G1
    exact ⟨h1, h2.trans P.lay⟩
theorem run_loop {i k : Nat} {p : Int} (hp : p ≤ 1000) : ∀ (n : Nat) (a : Int) (q : T_cpu_Cpu × T_memory_Mem) (H : Heap), 0 ≤ a → a + n = p → Good q n → At H i k q.1 q.2 →
    ∃ H', loopO (fun (x : (Int × Heap)) => cpu_Cpu_Run_L1 p (.at i 0) (.at k 0) x.1 x.2) (a, H) = some H' ∧ At H' i k (nxn n q).1 (nxn n q).2 ∧ Fr H H' i k
  | 0, a, q, H, h0, h1, G, A => by
    refine ⟨H, loopO_out ?_, A, Fr.refl _ _ _⟩
    show cpu_Cpu_Run_L1 p (.at i 0) (.at k 0) a H = _
    unfold cpu_Cpu_Run_L1
    rw [if_neg (by simp; split <;> omega)]
  | n + 1, a, q, H, h0, h1, G, A => by
    obtain ⟨P, G1⟩ := nx_ok G
    obtain ⟨H1, e1, A1, f1⟩ := P.run i k H A
    have e : cpu_Cpu_Run_L1 p (.at i 0) (.at k 0) a H = if ((nx q).1.State_ != 0) = true then some (Sum.inr H1) else some (Sum.inl (a + 1, H1)) := by
      unfold cpu_Cpu_Run_L1
      rw [if_pos (by simp; split <;> omega), e1, bind2_some, wrap_i64 (a + 1) (by omega) (by omega)]
    by_cases s : (nx q).1.State_ = 0
    · rw [if_neg (by simpa using s)] at e
      obtain ⟨H2, e2, A2, f2⟩ := run_loop hp n (a + 1) (nx q) H1 (by omega) (by omega) G1 A1
      exact ⟨H2, (loopO_go e).trans e2, A2, f1.trans f2⟩
    · rw [if_pos (by simpa using s)] at e
      refine ⟨H1, loopO_out e, ?_, f1⟩
      show At H1 i k (nxn n (nx q)).1 (nxn n (nx q)).2
      rw [nxn_halt G1 s]; exact A1
theorem run_ok {i k : Nat} {H : Heap} {q : T_cpu_Cpu × T_memory_Mem} {n : Nat} (hn : n ≤ 1000) (G : Good q n) (A : At H i k q.1 q.2) : ∃ H', cpu_Cpu_Run H (.at i 0) (.at k 0) n = some (H', (nxn n q).1.State_) ∧ At H' i k (nxn n q).1 (nxn n q).2 ∧ Fr H H' i k := by
  obtain ⟨H1, e1, A1, f1⟩ := run_loop (p := n) (by omega) n 0 q H (by omega) (by omega) G A
  refine ⟨H1, ?_, A1, f1⟩
  unfold cpu_Cpu_Run
  rw [e1, bind1_some, pbnd_at, A1.c]; rfl
/-! frames -/
theorem At.far {H H' : Heap} {i k i' k' : Nat} {c : T_cpu_Cpu} {m : T_memory_Mem} (A : At H i k c m) (f : Fr H H' i' k') (h1 : i ≠ i') (h2 : i ≠ k') (h3 : k ≠ i') (h4 : k ≠ k') : At H' i k c m :=
  ⟨hgetT_of cpu_inj (by rw [f i h1 h2]; exact hgetT_inv A.c), hgetT_of mem_inj (by rw [f k h3 h4]; exact hgetT_inv A.m), A.ne⟩
/-! memories, made and filled -/
theorem mks_ok {n : Int} (h0 : 0 ≤ n) (h1 : n ≤ 262144) : mks 4 n n (0 : Int) = some (List.replicate n.toNat 0) := by
  unfold mks
  rw [if_pos ⟨by omega, by omega, by have := room_big; omega, by omega⟩]
theorem new_mem {L : T_memory_Layout} (H : Heap) (hr : RightB L = true) : memory_New H L = some (new_memory_Mem H ⟨L, List.replicate (L.Stack_ / 4).toNat 0⟩, .at H.length 0, 0) ∧ ref03_New (endsM L) = some (toM ⟨L, List.replicate (L.Stack_ / 4).toNat 0⟩) := by
  have R := rt5 hr
  have h0 : 0 ≤ L.Stack_ := by have := R.c0; have := R.c1; have := R.c2; have := R.c3; have := R.c4; omega
  have hm := R.m
  constructor
  · unfold memory_New
    rw [right_spec, bind1_some, hr, if_neg (by simp), tdiv_pos h0, wrap_u32 _ (by omega) (by omega), mks_ok (by omega) (by omega), bind1_some, bnd_def, bnd_def]
  · unfold ref03_New
    have e : (endsM L).g 4 = L.Stack_ := rfl
    rw [e, tdiv_pos h0, wrap_u32 _ (by omega) (by omega), mks_ok (by omega) (by omega), bind1_some]; rfl
theorem fill_mem {H : Heap} {k : Nat} {m : T_memory_Mem} {p : Int} {l : List Int} (hg : get_memory_Mem H k 0 = some m) (hk : (m.words_.length : Int) * 4 = m.layout_.Stack_) (sk : m.layout_.Stack_ ≤ 1048576) (h0 : 0 ≤ p) (h4 : p % 4 = 0) (hl : p / 4 + l.length ≤ m.words_.length) :
    memory_Mem_Fill H (.at k 0) p l = some (set_memory_Mem H k 0 ⟨m.layout_, setAt m.words_ (p / 4).toNat l⟩, 0) ∧ ref03_Fill (toM m) p l = some (toM ⟨m.layout_, setAt m.words_ (p / 4).toNat l⟩, 0) := by
  constructor
  · unfold memory_Mem_Fill
    rw [tmod_pos h0, if_neg (by simpa using h4), pbnd_at, hg, bind1_some, tdiv_pos h0, wrap_u32 (p / 4) (by omega) (by omega), wrap_u32 (m.layout_.Stack_ - p) (by omega) (by omega), wrap_u64 (m.layout_.Stack_ - p) (by omega) (by omega), tdiv_pos (by omega), wrap_u64 ((m.layout_.Stack_ - p) / 4) (by omega) (by omega), wrap_u64 (l.length : Int) (by omega) (by omega), if_neg (by simp; omega)]
    have hcut : cut m.words_ (p / 4) m.words_.length = some (m.words_.drop (p / 4).toNat) := by
      unfold cut
      rw [if_pos ⟨by omega, by omega, by omega⟩]
      simp
    have hc : cpy m.words_ (p / 4).toNat l = setAt m.words_ (p / 4).toNat l := by
      unfold cpy
      rw [List.take_of_length_le (by omega)]
    rw [hcut, bind1_some, hc, bnd_def, bnd_def]
  · unfold ref03_Fill
    have e : (toM m).W_ = m.words_ := rfl
    rw [tmod_pos h0, if_neg (by simpa using h4), e, tdiv_pos h0, wrap_u32 (p / 4) (by omega) (by omega), wrap_i64 (p / 4) (by omega) (by omega), wrap_i64 (p / 4 + (l.length : Int)) (by omega) (by omega), if_neg (by simp; omega)]
    show bind1 (ref03_with ⟨endsM m.layout_, m.words_⟩ (p / 4) l) _ = _
    rw [with_spec (p / 4) l (by omega) hl (by omega), bind1_some]; rfl
theorem new_cpu {H : Heap} {S : T_cpu_Setup} {l : List Int} (hl : l.length ≤ 100) : cpu_New H S l = some (new_cpu_Cpu H ⟨arrL [0, 0, 0, 0, 0, 0, 0, 0, 0, 0, 0, 0, 0, 0, 0, 0], S.Entry_, 0, 0, 0, 0, 0, 0, [], S, l⟩, .at H.length 0) := by
  unfold cpu_New
  rw [app_some (by simp; omega), bind1_some, bnd_def, bnd_def]; rfl
end Go.Proofs.Abs
/- Printed by gen (walk.py). -/
namespace Go.Proofs.Abs
open Go Go.Proofs
set_option linter.unusedVariables false
set_option maxRecDepth 100000
set_option maxHeartbeats 0
def wf_memory_Layout (x : T_memory_Layout) : Prop := (fun n => (Lit.int .u32 n).wf = true) x.Code_ ∧ (fun n => (Lit.int .u32 n).wf = true) x.Tables_ ∧ (fun n => (Lit.int .u32 n).wf = true) x.Data_ ∧ (fun n => (Lit.int .u32 n).wf = true) x.Heap_ ∧ (fun n => (Lit.int .u32 n).wf = true) x.Stack_
theorem opens_memory_Layout : Opens Try.prog 92 e_memory_Layout wf_memory_Layout := fun H enc w fuel cs x h => by
  obtain ⟨xs, n, _, _, hl, hxl, hp⟩ := DataW.trod_struct Try.underlying92 h
  have hl : cs.length = 5 := by rw [hl]; kernel_rfl
  obtain ⟨a0, w0, r0⟩ := part_of (i := 0) rfl hxl hp (opens_int Try.underlying35)
  obtain ⟨a1, w1, r1⟩ := part_of (i := 1) rfl hxl hp (opens_int Try.underlying35)
  obtain ⟨a2, w2, r2⟩ := part_of (i := 2) rfl hxl hp (opens_int Try.underlying35)
  obtain ⟨a3, w3, r3⟩ := part_of (i := 3) rfl hxl hp (opens_int Try.underlying35)
  obtain ⟨a4, w4, r4⟩ := part_of (i := 4) rfl hxl hp (opens_int Try.underlying35)
  exact ⟨⟨a0, a1, a2, a3, a4⟩, ⟨w0, w1, w2, w3, w4⟩, (reads_step (o := 0) (z := 1) r0 (reads_step (o := 1) (z := 1) r1 (reads_step (o := 2) (z := 1) r2 (reads_step (o := 3) (z := 1) r3 (reads_step (o := 4) (z := 1) r4 (reads_end (o := 5) (by rw [hl]; exact Nat.le_refl _)))))))⟩
def wf_cpu_Setup (x : T_cpu_Setup) : Prop := (fun n => (Lit.int .u32 n).wf = true) x.Entry_ ∧ (fun n => (Lit.int .u32 n).wf = true) x.Vector_ ∧ (fun n => (Lit.int .u32 n).wf = true) x.Guard_ ∧ (fun n => (Lit.int .u32 n).wf = true) x.Limit_
theorem opens_cpu_Setup : Opens Try.prog 94 e_cpu_Setup wf_cpu_Setup := fun H enc w fuel cs x h => by
  obtain ⟨xs, n, _, _, hl, hxl, hp⟩ := DataW.trod_struct Try.underlying94 h
  have hl : cs.length = 4 := by rw [hl]; kernel_rfl
  obtain ⟨a0, w0, r0⟩ := part_of (i := 0) rfl hxl hp (opens_int Try.underlying35)
  obtain ⟨a1, w1, r1⟩ := part_of (i := 1) rfl hxl hp (opens_int Try.underlying35)
  obtain ⟨a2, w2, r2⟩ := part_of (i := 2) rfl hxl hp (opens_int Try.underlying35)
  obtain ⟨a3, w3, r3⟩ := part_of (i := 3) rfl hxl hp (opens_int Try.underlying35)
  exact ⟨⟨a0, a1, a2, a3⟩, ⟨w0, w1, w2, w3⟩, (reads_step (o := 0) (z := 1) r0 (reads_step (o := 1) (z := 1) r1 (reads_step (o := 2) (z := 1) r2 (reads_step (o := 3) (z := 1) r3 (reads_end (o := 4) (by rw [hl]; exact Nat.le_refl _))))))⟩
def wf_law04_Case (x : T_law04_Case) : Prop := wf_memory_Layout x.L_ ∧ wf_cpu_Setup x.S_ ∧ (fun xs => (∀ x, x ∈ xs → (fun n => (Lit.int .u32 n).wf = true) x) ∧ xs.length ≤ maxLen) x.Words_ ∧ (fun a => ∀ x, x ∈ a.l → (fun n => (Lit.int .u32 n).wf = true) x) x.R_ ∧ (fun xs => (∀ x, x ∈ xs → (fun n => (Lit.int .i32 n).wf = true) x) ∧ xs.length ≤ maxLen) x.Input_
theorem opens_law04_Case : Opens Try.prog 96 e_law04_Case wf_law04_Case := fun H enc w fuel cs x h => by
  obtain ⟨xs, n, _, _, hl, hxl, hp⟩ := DataW.trod_struct Try.underlying96 h
  have hl : cs.length = 27 := by rw [hl]; kernel_rfl
  obtain ⟨a0, w0, r0⟩ := part_of (i := 0) rfl hxl hp opens_memory_Layout
  obtain ⟨a1, w1, r1⟩ := part_of (i := 1) rfl hxl hp opens_cpu_Setup
  obtain ⟨a2, w2, r2⟩ := part_of (i := 2) rfl hxl hp (opens_slice (z := 1) Try.underlying42 (by kernel_rfl) (by kernel_rfl) (fun _ => rfl) (opens_int Try.underlying35))
  obtain ⟨a3, w3, r3⟩ := part_of (i := 3) rfl hxl hp (opens_arr (z := 1) Try.underlying46 (by kernel_rfl) (by kernel_rfl) (opens_int Try.underlying35))
  obtain ⟨a4, w4, r4⟩ := part_of (i := 4) rfl hxl hp (opens_slice (z := 1) Try.underlying48 (by kernel_rfl) (by kernel_rfl) (fun _ => rfl) (opens_int Try.underlying21))
  exact ⟨⟨a0, a1, a2, a3, a4⟩, ⟨w0, w1, w2, w3, w4⟩, (reads_step (o := 0) (z := 5) r0 (reads_step (o := 5) (z := 4) r1 (reads_step (o := 9) (z := 1) r2 (reads_step (o := 10) (z := 16) r3 (reads_step (o := 26) (z := 1) r4 (reads_end (o := 27) (by rw [hl]; exact Nat.le_refl _)))))))⟩
/-- the statement, in plain Lean -/
def CpuPartsPure : Prop := ∀ (p0 : T_law04_Case) (p1 : Int) (p2 : Int), wf_law04_Case p0 → (fun n => (Lit.int .u8 n).wf = true) p1 → (fun n => (Lit.int .u8 n).wf = true) p2 → ∃ Hr, law04_CpuParts [] p0 p1 p2 = some (Hr, true)
end Go.Proofs.Abs
/- Both machines, begun; the page's example. -/
namespace Go.Proofs.Abs
open Go
set_option linter.unusedVariables false
set_option linter.unusedSimpArgs false
/-! the page's example -/
def awC (n : Int) : T_cpu_Cpu := ⟨arrL [0, n, 0, 0, 0, 0, 0, 0, 0, 0, 0, 0, 0, 0, 0, 0], 0, 0, 0, 0, 0, 0, 0, [], ⟨0, 0, 0, 0⟩, []⟩
def awL : T_memory_Layout := ⟨16, 16, 16, 16, 32⟩
def awM : T_memory_Mem := ⟨awL, setAt (List.replicate (32 / 4 : Int).toNat 0) (0 / 4 : Int).toNat [34603013, 16777216]⟩
theorem awake_ok (H : Heap) : ∃ H', law04_awake H = some (H', true) := by
  obtain ⟨n1, _⟩ := new_mem (L := awL) H (by kernel_rfl)
  have e1 : instr_Encode ⟨2, 1, 0, 0, 5⟩ = some (34603013, 0) := by kernel_rfl
  have e2 : instr_Encode ⟨1, 0, 0, 0, 0⟩ = some (16777216, 0) := by kernel_rfl
  have d1 : ref02_Decode 34603013 = some (⟨2, 1, 0, 0, 5⟩, 0) := by rw [decC_eq]; kernel_rfl
  have d2 : ref02_Decode 16777216 = some (⟨1, 0, 0, 0, 0⟩, 0) := by rw [decC_eq]; kernel_rfl
  have g1 : get_memory_Mem (new_memory_Mem H ⟨awL, List.replicate (32 / 4 : Int).toNat 0⟩) H.length 0 = some ⟨awL, List.replicate (32 / 4 : Int).toNat 0⟩ := hgT_new mem_inj mem_len H _
  obtain ⟨f1, _⟩ := fill_mem (l := [34603013, 16777216]) (p := 0) g1 (by decide) (by decide) (by decide) (by decide) (by decide)
  obtain ⟨H2, hH2⟩ : ∃ H2, H2 = set_memory_Mem (new_memory_Mem H ⟨awL, List.replicate (32 / 4 : Int).toNat 0⟩) H.length 0 awM := ⟨_, rfl⟩
  have g2 : get_memory_Mem H2 H.length 0 = some awM := by rw [hH2]; exact hgT_set mem_inj mem_len g1 _
  have len : H2.length = H.length + 1 := by rw [hH2]; simp [set_memory_Mem, new_memory_Mem, hset_len]
  have A : At (new_cpu_Cpu H2 (awC 0)) H2.length H.length (awC 0) awM := ⟨hgT_new cpu_inj cpu_len H2 _, hgT_old mem_inj g2, by omega⟩
  have G : Good (awC 0, awM) 9 := by
    refine ⟨⟨?_, ⟨by decide, by decide⟩, ⟨by decide, by decide⟩, ⟨by decide, by decide⟩, ⟨by decide, by decide⟩, by decide, ⟨⟨by decide, by decide⟩, ⟨by decide, by decide⟩, ⟨by decide, by decide⟩⟩, ?_, by decide, by decide⟩, by decide⟩
    · have z : ∀ q, q < 16 → (awC 0).R_.g q = 0 := by decide
      intro q hq
      show u32 ((awC 0).R_.g q)
      rw [z q hq]; exact ⟨by decide, by decide⟩
    · have z : ∀ x ∈ awM.words_, 0 ≤ x ∧ x < 4294967296 := by decide
      exact z
  obtain ⟨q1, hq1⟩ : ∃ q1 : T_cpu_Cpu × T_memory_Mem, q1 = (⟨(awC 5).R_, 4, 0, 0, 0, 0, 1, 0, [], ⟨0, 0, 0, 0⟩, []⟩, awM) := ⟨_, rfl⟩
  obtain ⟨q2, hq2⟩ : ∃ q2 : T_cpu_Cpu × T_memory_Mem, q2 = (⟨(awC 5).R_, 4, 0, 0, 1, 0, 2, 0, [], ⟨0, 0, 0, 0⟩, []⟩, awM) := ⟨_, rfl⟩
  have s1 : nx (awC 0, awM) = q1 := nx_eq G (by
    unfold ref04_Step
    rw [if_neg (by decide), show ref03_Fetch (toM awM) (toR (awC 0)).PC_ = some (34603013, 0) by kernel_rfl, bind2_some, if_neg (by decide), d1, bind2_some, if_neg (by decide), hq1]
    kernel_rfl)
  have G1 : Good q1 8 := by rw [← s1]; exact (nx_ok G).2
  have s2 : nx q1 = q2 := nx_eq G1 (by
    rw [hq1]
    unfold ref04_Step
    rw [if_neg (by decide)]
    show bind2 (ref03_Fetch (toM awM) 4) _ = _
    rw [show ref03_Fetch (toM awM) 4 = some (16777216, 0) by kernel_rfl, bind2_some, if_neg (by decide), d2, bind2_some, if_neg (by decide), hq2]
    kernel_rfl)
  have G2 : Good q2 7 := by rw [← s2]; exact (nx_ok G1).2
  have s3 : nxn 9 (awC 0, awM) = q2 := by
    show nxn 7 (nx (nx (awC 0, awM))) = q2
    rw [s1, s2]
    exact nxn_halt G2 (by rw [hq2]; decide)
  obtain ⟨H3, r1, A3, _⟩ := run_ok (n := 9) (by omega) G A
  rw [s3, hq2] at A3
  rw [s3, hq2] at r1
  refine ⟨H3, ?_⟩
  unfold law04_awake
  show bind3 (memory_New H awL) _ = _
  rw [n1, bind3_some, if_neg (by simp [isNil_at]), e1, bind2_some, e2, bind2_some]
  show bind2 (memory_Mem_Fill (new_memory_Mem H ⟨awL, List.replicate (32 / 4 : Int).toNat 0⟩) _ _ _) _ = _
  rw [f1, bind2_some]
  show bind2 (cpu_New (set_memory_Mem (new_memory_Mem H ⟨awL, List.replicate (32 / 4 : Int).toNat 0⟩) H.length 0 awM) _ _) _ = _
  rw [← hH2, new_cpu (by decide), bind2_some, if_pos (by simp [isNil_at])]
  show bind2 (bind2 (cpu_Cpu_Run (new_cpu_Cpu H2 (awC 0)) (.at H2.length 0) (.at H.length 0) ((9 : Nat) : Int)) _) _ = _
  rw [r1, bind2_some, if_pos (by rfl), pbnd_at, A3.c]; rfl
/-! begun -/
theorem few_ok {p : T_law04_Case} (h : wf_law04_Case p) : law04_few p = some (RightB p.L_ && (decide (p.L_.Stack_ ≤ 4096) && (decide ((p.Words_.length : Int) ≤ 1024) && decide ((p.Input_.length : Int) ≤ 100)))) := by
  unfold law04_few
  rw [ends_spec, bind1_some, rright_spec _ (wf_u32.1 h.1.1).1, bind1_some]
structure Few (p : T_law04_Case) : Prop where
  wf : wf_law04_Case p
  r : RightB p.L_ = true
  s : p.L_.Stack_ ≤ 4096
  w : p.Words_.length ≤ 1024
  i : p.Input_.length ≤ 100
theorem few_cases {p : T_law04_Case} (h : wf_law04_Case p) : law04_few p = some false ∨ law04_few p = some true ∧ Few p := by
  rw [few_ok h]
  by_cases c : RightB p.L_ = true ∧ p.L_.Stack_ ≤ 4096 ∧ (p.Words_.length : Int) ≤ 1024 ∧ (p.Input_.length : Int) ≤ 100
  · obtain ⟨c1, c2, c3, c4⟩ := c
    exact .inr ⟨by simp [c1, c2]; omega, ⟨h, c1, c2, by omega, by omega⟩⟩
  · refine .inl ?_
    congr 1
    simp only [Bool.and_eq_false_iff, decide_eq_false_iff_not]
    by_cases c1 : RightB p.L_ = true
    · simp only [c1, true_and] at c
      omega
    · exact .inl (by simpa using c1)
def begC (p : T_law04_Case) : T_cpu_Cpu := ⟨p.R_, p.S_.Entry_, 0, 0, 0, 0, 0, 0, [], p.S_, p.Input_⟩
def begM (p : T_law04_Case) : T_memory_Mem := ⟨p.L_, setAt (List.replicate (p.L_.Stack_ / 4).toNat 0) (0 / 4 : Int).toNat (p.Words_.take (min (p.L_.Stack_ / 4).toNat p.Words_.length))⟩
theorem mem_setAt {xs ys : List Int} {k : Nat} {x : Int} (h : x ∈ setAt xs k ys) : x ∈ xs ∨ x ∈ ys := by
  unfold setAt at h
  simp only [List.mem_append] at h
  rcases h with (h | h) | h
  · exact .inl (List.mem_of_mem_take h)
  · exact .inr h
  · exact .inl (List.mem_of_mem_drop h)
theorem beg_good {p : T_law04_Case} (F : Few p) : Good (begC p, begM p) 1000 ∧ (begM p).words_.length = (p.L_.Stack_ / 4).toNat := by
  have R := rt5 F.r
  have h0 : 0 ≤ p.L_.Stack_ := by have := R.c0; have := R.c1; have := R.c2; have := R.c3; have := R.c4; omega
  have d4 := R.d4
  have sk := F.s
  obtain ⟨hL, hS, hW, hR, hI⟩ := F.wf
  have lt : ∀ n : Int, (Lit.int .u32 n).wf = true → u32 n := fun n h => by have := wf_u32.1 h; unfold u32; omega
  have wl : (begM p).words_.length = (p.L_.Stack_ / 4).toNat := by
    show (setAt _ _ _).length = _
    rw [setAt_len (by simp; omega)]; simp
  have z : u32 0 := ⟨by decide, by decide⟩
  refine ⟨⟨⟨?_, lt _ hS.1, z, z, ⟨by show (0 : Int) ≤ 0; decide, by show (0 : Int) ≤ _; omega⟩, F.i, ⟨lt _ hS.2.1, lt _ hS.2.2.1, lt _ hS.2.2.2⟩, ?_, ?_, sk⟩, by show 0 + 1000 ≤ 1001; omega⟩, wl⟩
  · intro q hq
    have hl := p.R_.h
    show u32 (p.R_.g q)
    have e : p.R_.g q = p.R_.l[q]'(by omega) := by
      unfold Arr.g
      rw [List.getElem?_eq_getElem (by omega)]; rfl
    rw [e]; exact lt _ (hR _ (List.getElem_mem _))
  · intro x hx
    rcases mem_setAt hx with h | h
    · rw [List.eq_of_mem_replicate h]; exact ⟨by decide, by decide⟩
    · exact lt _ (hW.1 _ (List.mem_of_mem_take h))
  · show ((begM p).words_.length : Int) * 4 = p.L_.Stack_
    rw [wl]; omega
theorem begun_ok {p : T_law04_Case} (F : Few p) (H : Heap) : ∃ H', law04_begun H p = some (H', .at (H.length + 1) 0, .at H.length 0, toR (begC p), toM (begM p)) ∧ At H' (H.length + 1) H.length (begC p) (begM p) ∧ H.length + 2 ≤ H'.length ∧ ∀ i k c m, At H i k c m → At H' i k c m := by
  obtain ⟨n1, n2⟩ := new_mem (L := p.L_) H F.r
  have R := rt5 F.r
  have h0 : 0 ≤ p.L_.Stack_ := by have := R.c0; have := R.c1; have := R.c2; have := R.c3; have := R.c4; omega
  have d4 := R.d4
  have sk := F.s
  have wk := F.w
  obtain ⟨m0, hm0⟩ : ∃ m0 : T_memory_Mem, m0 = ⟨p.L_, List.replicate (p.L_.Stack_ / 4).toNat 0⟩ := ⟨_, rfl⟩
  have l0 : m0.words_.length = (p.L_.Stack_ / 4).toNat := by rw [hm0]; simp
  have y0 : m0.layout_ = p.L_ := by rw [hm0]
  rw [← hm0] at n1 n2
  have g1 := hgT_new mem_inj mem_len H m0
  obtain ⟨H1, hH1⟩ : ∃ H1, H1 = new_memory_Mem H m0 := ⟨_, rfl⟩
  have len : H1.length = H.length + 1 := by rw [hH1]; simp [new_memory_Mem]
  have g1 : get_memory_Mem H1 H.length 0 = some m0 := by rw [hH1]; exact g1
  obtain ⟨c0, hc0⟩ : ∃ c0 : T_cpu_Cpu, c0 = ⟨arrL [0, 0, 0, 0, 0, 0, 0, 0, 0, 0, 0, 0, 0, 0, 0, 0], p.S_.Entry_, 0, 0, 0, 0, 0, 0, [], p.S_, p.Input_⟩ := ⟨_, rfl⟩
  have n3 := new_cpu (H := H1) (S := p.S_) F.i
  rw [← hc0, len] at n3
  obtain ⟨H2, hH2⟩ : ∃ H2, H2 = new_cpu_Cpu H1 c0 := ⟨_, rfl⟩
  rw [← hH2] at n3
  have A : At H2 (H.length + 1) H.length c0 m0 := by rw [hH2, ← len]; exact ⟨hgT_new cpu_inj cpu_len H1 _, hgT_old mem_inj g1, by omega⟩
  obtain ⟨f1, f2⟩ := fill_mem (l := p.Words_.take (min (p.L_.Stack_ / 4).toNat p.Words_.length)) (p := 0) A.m (by rw [l0, y0]; omega) (by rw [y0]; omega) (by decide) (by decide) (by rw [l0]; simp; omega)
  have e1 : (⟨m0.layout_, setAt m0.words_ (0 / 4 : Int).toNat (p.Words_.take (min (p.L_.Stack_ / 4).toNat p.Words_.length))⟩ : T_memory_Mem) = begM p := by rw [hm0]; rfl
  rw [e1] at f1 f2
  obtain ⟨A1, r1⟩ := A.setM (begM p)
  obtain ⟨A2, r2⟩ := A1.setC (begC p)
  refine ⟨_, ?_, A2, ?_, fun i k c m B => ?_⟩
  · unfold law04_begun
    rw [ends_spec, bind1_some]
    show bind1 (ref03_New (endsM p.L_)) _ = _
    rw [n2, bind1_some, n1, bind3_some, ← hH1, n3, bind2_some, if_neg (by simp [isNil_at])]
    have hc : cut p.Words_ 0 (if ((toM m0).W_.length : Int) < (p.Words_.length : Int) then ((toM m0).W_.length : Int) else (p.Words_.length : Int)) = some (p.Words_.take (min (p.L_.Stack_ / 4).toNat p.Words_.length)) := by
      have : (toM m0).W_.length = (p.L_.Stack_ / 4).toNat := l0
      rw [this]
      have e : (if (((p.L_.Stack_ / 4).toNat : Nat) : Int) < (p.Words_.length : Int) then (((p.L_.Stack_ / 4).toNat : Nat) : Int) else (p.Words_.length : Int)) = ((min (p.L_.Stack_ / 4).toNat p.Words_.length : Nat) : Int) := by split <;> omega
      rw [e]
      unfold cut
      rw [if_pos ⟨by omega, by omega, by omega⟩]
      simp
    rw [hc, bind1_some, f1, bind2_some, f2, bind2_some, pbnd_at, A1.c, bind1_some, bnd_def, hc0]; rfl
  · simp [set_cpu_Cpu, set_memory_Mem, hset_len, hH2, new_cpu_Cpu, len]
  · have hi := hgT_lt B.c
    have hk := hgT_lt B.m
    have B2 : At H2 i k c m := by
      rw [hH2, hH1]
      exact ⟨hgT_old cpu_inj (hgT_old cpu_inj B.c), hgT_old mem_inj (hgT_old mem_inj B.m), B.ne⟩
    exact (B2.far r1 (by omega) (by omega) (by omega) (by omega)).far r2 (by omega) (by omega) (by omega) (by omega)
end Go.Proofs.Abs
/- So many steps, in two parts, come to the same as all at once. -/
namespace Go.Proofs.Abs
open Go
set_option linter.unusedVariables false
set_option linter.unusedSimpArgs false
theorem wf_u8 {n : Int} : (Lit.int .u8 n).wf = true ↔ 0 ≤ n ∧ n ≤ 255 := by
  simp [Lit.wf, IntKind.min, IntKind.max, IntKind.signed, IntKind.bits]
theorem differ_ok {H : Heap} {k k' : Nat} {m : T_memory_Mem} (h : get_memory_Mem H k 0 = some m) (h' : get_memory_Mem H k' 0 = some m) (hl : m.words_.length ≤ 262144) : memory_Differ H (.at k 0) (.at k' 0) = some (0, false) := by
  have loop : ∀ (n : Nat) (a : Int), 0 ≤ a → a + n = m.words_.length → loopO (fun x : Int => memory_Differ_L1 m m x) a = some (.inl ()) := fun n => by
    induction n with
    | zero =>
      intro a h0 h1
      refine loopO_out ?_
      unfold memory_Differ_L1
      rw [if_neg (by simp; omega)]
    | succ n ih =>
      intro a h0 h1
      have e : memory_Differ_L1 m m a = some (.inl (a + 1)) := by
        unfold memory_Differ_L1
        rw [if_pos (by simp; omega), gi_some h0 (by omega), bind1_some, bind1_some, if_neg (by simp), wrap_i64 (a + 1) (by omega) (by omega)]
      rw [loopO_go e]
      exact ih (a + 1) (by omega) (by omega)
  unfold memory_Differ
  rw [pbnd_at, h, bind1_some, pbnd_at, h', bind1_some, if_neg (by simp [eq_memory_Layout]), loop m.words_.length 0 (by omega) (by omega), bind1_some, sum2_inl]
theorem CpuParts_holds : CpuPartsPure := fun p a b h ha hb => by
  obtain ⟨a0, a1⟩ := wf_u8.1 ha
  obtain ⟨b0, b1⟩ := wf_u8.1 hb
  obtain ⟨x, rfl⟩ : ∃ x : Nat, a = x := ⟨a.toNat, by omega⟩
  obtain ⟨y, rfl⟩ : ∃ y : Nat, b = y := ⟨b.toNat, by omega⟩
  obtain ⟨H1, e1⟩ := awake_ok []
  unfold law04_CpuParts
  rw [e1, bind2_some, if_neg (by simp)]
  rcases few_cases h with hf | ⟨hf, F⟩
  · rw [hf, bind1_some, if_pos (by rfl)]; exact ⟨_, rfl⟩
  · obtain ⟨H2, e2, A2, l2, _⟩ := begun_ok F H1
    obtain ⟨H3, e3, A3, l3, k3⟩ := begun_ok F H2
    obtain ⟨G, wl⟩ := beg_good F
    obtain ⟨q, hq⟩ : ∃ q : T_cpu_Cpu × T_memory_Mem, q = (begC p, begM p) := ⟨_, rfl⟩
    have A2 : At H2 (H1.length + 1) H1.length q.1 q.2 := by rw [hq]; exact A2
    have A3 : At H3 (H2.length + 1) H2.length q.1 q.2 := by rw [hq]; exact A3
    have G : Good q 1000 := by rw [hq]; exact G
    obtain ⟨H4, r4, A4, f4⟩ := run_ok (n := x) (by omega) ⟨G.1, by have := G.2; omega⟩ (k3 _ _ _ _ A2)
    have G4 := (nxn_good (a := x) (b := y) (q := q) ⟨G.1, by have := G.2; omega⟩).1
    obtain ⟨H5, r5, A5, f5⟩ := run_ok (n := y) (by omega) G4 A4
    have B5 := (A3.far f4 (by omega) (by omega) (by omega) (by omega)).far f5 (by omega) (by omega) (by omega) (by omega)
    obtain ⟨H6, r6, B6, f6⟩ := run_ok (n := x + y) (by omega) ⟨G.1, by have := G.2; omega⟩ B5
    have A6 := A5.far f6 (by omega) (by omega) (by omega) (by omega)
    obtain ⟨⟨I6, _⟩, ly⟩ := nxn_good (a := x + y) (b := 0) (q := q) ⟨G.1, by have := G.2; omega⟩
    rw [nxn_add] at B6 I6
    have w1 := I6.wl
    have w2 := I6.sk
    rw [hf, bind1_some, if_neg (by simp), e2, bind5_some, e3, bind5_some, isNil_at, isNil_at, if_neg (by simp), wrap_i64 (x : Int) (by omega) (by omega), wrap_i64 (y : Int) (by omega) (by omega), r4, bind2_some, r5, bind2_some, wrap_i64 ((x : Int) + y) (by omega) (by omega), show ((x : Int) + y) = ((x + y : Nat) : Int) by omega, r6, bind2_some, differ_ok A6.m B6.m (by omega), bind2_some, if_pos (by rfl), pbnd_at, A6.c, bind1_some, pbnd_at, B6.c, bind1_some, if_pos (by simp [eq_a16_int_u32]), if_pos (by simp), if_pos (by simp), if_pos (by simp), bind1_some]
    exact ⟨H6, by simp⟩
end Go.Proofs.Abs
