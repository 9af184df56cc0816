import Derived.Test.YtjheniapmdcelaaCpuOnesF3
set_option linter.unusedVariables false
set_option linter.unusedSimpArgs false
set_option linter.unusedSectionVars false
namespace Go.Proofs.Abs
open Go
set_option linter.unusedVariables false
set_option linter.unusedSimpArgs false
theorem R9 (a : Nat) (h : a < 4294967296) : (BitVec.ofInt 32 (a : Int)).toNat = a := by
  rw [BitVec.toNat_ofInt]
  have : ((a : Int) % ((2 ^ 32 : Nat) : Int)) = (a : Int) := Int.emod_eq_of_lt (by omega) (by simp; omega)
  rw [this]; simp
theorem pT (a b : Nat) (ha : a < 4294967296) (hb : b < 4294967296) : A9 .or .u32 (a : Int) (b : Int) = ((a ||| b : Nat) : Int) := by
  have h : a ||| b < 4294967296 := Nat.or_lt_two_pow (n := 32) ha hb
  show IntKind.u32.wrap ((BitVec.ofInt 32 (a : Int) ||| BitVec.ofInt 32 (b : Int)).toNat : Int) = _
  rw [BitVec.toNat_or, R9 a ha, R9 b hb, Cj _ (by omega) (by omega)]
theorem oG (a b : Nat) (ha : a < 4294967296) (hb : b < 4294967296) : A9 .and .u32 (a : Int) (b : Int) = ((a &&& b : Nat) : Int) := by
  have h : a &&& b < 4294967296 := Nat.lt_of_le_of_lt Nat.and_le_left ha
  show IntKind.u32.wrap ((BitVec.ofInt 32 (a : Int) &&& BitVec.ofInt 32 (b : Int)).toNat : Int) = _
  rw [BitVec.toNat_and, R9 a ha, R9 b hb, Cj _ (by omega) (by omega)]
theorem Sa (k : Nat) (x b : Int) (h0 : 0 ≤ x) (hb0 : 0 ≤ b) (hb : b < 2 ^ k) (h : x * 2 ^ k + b < 4294967296) : A9 .or .u32 (x * 2 ^ k) b = x * 2 ^ k + b := by
  obtain ⟨m, rfl⟩ : ∃ m : Nat, x = m := ⟨x.toNat, by omega⟩
  obtain ⟨n, rfl⟩ : ∃ n : Nat, b = n := ⟨b.toNat, by omega⟩
  have hn : n < 2 ^ k := by exact_mod_cast hb
  have e0 : ((m : Int) * 2 ^ k + n) = ((m * 2 ^ k + n : Nat) : Int) := by simp
  rw [e0] at h
  have hs : m * 2 ^ k + n < 4294967296 := Int.ofNat_lt.1 h
  clear h e0
  have e : ((m : Int) * 2 ^ k) = ((m * 2 ^ k : Nat) : Int) := by simp
  rw [e, pT _ _ (by omega) (by omega), ← Nat.shiftLeft_eq, ← Nat.shiftLeft_add_eq_or_of_lt hn]
  simp
theorem cJ (k : Nat) (a : Int) (h0 : 0 ≤ a) (h : a < 4294967296) (hk : k ≤ 31) : A9 .and .u32 a ((2 ^ k - 1 : Nat) : Int) = a % 2 ^ k := by
  obtain ⟨n, rfl⟩ : ∃ n : Nat, a = n := ⟨a.toNat, by omega⟩
  have p : 2 ^ k ≤ 2 ^ 31 := Nat.pow_le_pow_right (by decide) hk
  rw [oG _ _ (by omega) (by omega), Nat.and_two_pow_sub_one_eq_mod]
  simp
theorem mP (a : Int) (h0 : 0 ≤ a) (h : a < 4294967296) : A9 .and .u32 a 65535 = a % 65536 := cJ 16 a h0 h (by decide)
theorem pU (a : Int) (h0 : 0 ≤ a) (h : a < 4294967296) : A9 .and .u32 a 16777215 = a % 16777216 := cJ 24 a h0 h (by decide)
theorem Jt (n : Int) : IntKind.u32.wrap n = n % 4294967296 := by
  simp only [IntKind.wrap, IntKind.bits, IntKind.signed]
  simp
theorem oH (op a b m c : Int) (h1 : 0 ≤ op) (h2 : op < 128) (h3 : 0 ≤ a) (h4 : a < 16) (h5 : 0 ≤ b) (h6 : b < 16) (h7 : 0 ≤ c) (h8 : c < 16) (h9 : m = 0 ∨ c = 0) :
    A9 .or .u32 (A9 .or .u32 (A9 .or .u32 (A9 .or .u32 (IntKind.wrap .u32 ((IntKind.wrap .u32 op) * 2 ^ 24)) (IntKind.wrap .u32 ((IntKind.wrap .u32 a) * 2 ^ 20))) (IntKind.wrap .u32 ((IntKind.wrap .u32 b) * 2 ^ 16))) (A9 .and .u32 (IntKind.wrap .u32 m) 65535)) (IntKind.wrap .u32 c)
      = op * 16777216 + a * 1048576 + b * 65536 + m % 65536 + c := by
  rw [Cj op h1 (by omega), Cj a h3 (by omega), Cj b h5 (by omega), Cj c h7 (by omega), Cj (op * 2 ^ 24) (by omega) (by omega), Cj (a * 2 ^ 20) (by omega) (by omega), Cj (b * 2 ^ 16) (by omega) (by omega),
    mP _ (by rw [Jt]; omega) (by rw [Jt]; omega), Jt]
  rw [Sa 24 op (a * 2 ^ 20) h1 (by omega) (by omega) (by omega)]
  have e1 : op * 2 ^ 24 + a * 2 ^ 20 = (op * 16 + a) * 2 ^ 20 := by omega
  rw [e1, Sa 20 (op * 16 + a) (b * 2 ^ 16) (by omega) (by omega) (by omega) (by omega)]
  have e2 : (op * 16 + a) * 2 ^ 20 + b * 2 ^ 16 = (op * 256 + a * 16 + b) * 2 ^ 16 := by omega
  rw [e2, Sa 16 (op * 256 + a * 16 + b) (m % 4294967296 % 65536) (by omega) (by omega) (by omega) (by omega)]
  rcases h9 with rfl | rfl
  · have e3 : (op * 256 + a * 16 + b) * 2 ^ 16 + 0 % 4294967296 % 65536 = (op * 4096 + a * 256 + b * 16 + 0) * 2 ^ 12 := by omega
    have e4 : (op * 4096 + a * 256 + b * 16 + 0) * 2 ^ 12 = ((op * 4096 + a * 256 + b * 16 + 0) * 2 ^ 8) * 2 ^ 4 := by omega
    rw [e3, e4, Sa 4 _ c (by omega) h7 (by omega) (by omega)]
    omega
  · have e3 : (op * 256 + a * 16 + b) * 2 ^ 16 + m % 4294967296 % 65536 = ((op * 256 + a * 16 + b) * 2 ^ 16 + m % 4294967296 % 65536) * 2 ^ 0 := by omega
    rw [e3, Sa 0 _ 0 (by omega) (by omega) (by omega) (by omega)]
    omega
end Go.Proofs.Abs
namespace Go.Proofs.Abs
open Go
set_option linter.unusedVariables false
set_option linter.unusedSimpArgs false
theorem gD (n : Nat) (hn : n ≤ 32) : Nl (n : Int) = some (2 ^ n) := by
  have go : ∀ (k : Nat) (a j : Int), j + k = n → 0 ≤ j → 0 ≤ a → a * 2 ^ k ≤ 4294967296 → Ik (fun (x : Int × Int) => Ds (n : Int) x.1 x.2) (a, j) = some (a * 2 ^ k) := by
    intro k
    induction k with
    | zero =>
      intro a j h1 h2 h3 h4
      obtain rfl : j = n := by omega
      refine Ob ?_
      show Ds (n : Int) a n = _
      unfold Ds; rw [if_neg (by simp)]; simp
    | succ k ih =>
      intro a j h1 h2 h3 h4
      have e : a * 2 ^ (k + 1) = a * 2 * 2 ^ k := by rw [Int.pow_succ, Int.mul_comm (2 ^ k) 2, ← Int.mul_assoc]
      have p : (1 : Int) ≤ 2 ^ k := Int.pow_pos (by decide)
      have le : a * 2 ≤ 4294967296 := by
        rw [e] at h4
        have := Int.mul_le_mul_of_nonneg_left p (show 0 ≤ a * 2 by omega)
        omega
      rw [Rn (f := fun (x : Int × Int) => Ds (n : Int) x.1 x.2) (s' := (a * 2, j + 1))]
      · rw [ih (a * 2) (j + 1) (by omega) (by omega) (by omega) (by rw [← e]; exact h4), e]
      · show Ds (n : Int) a j = _
        unfold Ds
        rw [if_pos (by simp; omega), Av _ (by omega) (by omega), Av _ (by omega) (by omega)]
  unfold Nl
  have p : (2 : Int) ^ n ≤ 4294967296 := by
    have : (2 : Nat) ^ n ≤ 2 ^ 32 := Nat.pow_le_pow_right (by decide) hn
    have e : ((2 : Int) ^ n) = ((2 ^ n : Nat) : Int) := by simp
    rw [e]; exact Int.ofNat_le.2 this
  have := go n 1 0 (by omega) (by omega) (by omega) (by rw [Int.one_mul]; exact p)
  rw [this]; simp [Aa]
noncomputable def Ut (w k : Int) : Option Int := Af (Rm .i64 (IntKind.wrap .i64 w) (2 ^ k.toNat)) fun v4 =>
  if (decide (v4 ≥ (IntKind.wrap .i64 (Int.tdiv (2 ^ k.toNat) 2)))) = true then (D4 (IntKind.wrap .i64 (v4 - 2 ^ k.toNat)))
  else (D4 v4)
theorem iP (w : Int) (k : Nat) (h0 : 1 ≤ k) (hk : k ≤ 32) : Kg w k = Ut w k := by
  unfold Kg
  rw [if_neg (by simp; omega)]
  have : (if (32 : Int) < k then (32 : Int) else k) = k := by rw [if_neg (by omega)]
  rw [this, gD k hk, Aa]; rfl
theorem Pl (w : Int) : Kg w 16 = Ut w 16 := iP w 16 (by decide) (by decide)
theorem Pm (w : Int) : Kg w 24 = Ut w 24 := iP w 24 (by decide) (by decide)
noncomputable def Qs (p0 : Int) (j11 : T_ref02_Instr) : Option (T_ref02_Instr × Int) :=
  Cc (Dq j11) fun r12 r13 =>
  if ((r13 != 0) || (r12 != p0)) = true then (some ((T_ref02_Instr.mk 0 0 0 0 0), 21))
  else (some (j11, 0))
noncomputable def Sb (p0 : Int) (j21 : T_ref02_Instr) : Option (T_ref02_Instr × Int) :=
  Qs p0 j21
noncomputable def Sc (p0 : Int) (j23 : T_ref02_Instr) : Option (T_ref02_Instr × Int) :=
  Sb p0 j23
noncomputable def Sd (p0 : Int) (j9 : T_ref02_Instr) (r1 : Int) (j20 : Bool) : Option (T_ref02_Instr × Int) :=
  if j20 = true then (Sb p0 (T_ref02_Instr.mk j9.Op_ j9.A_ j9.B_ j9.C_ (IntKind.wrap .i64 (Int.tmod p0 65536))))
  else (if (r1 == 7) = true then (Af (Ut p0 24) fun r25 =>
  Sc p0 (T_ref02_Instr.mk j9.Op_ j9.A_ j9.B_ j9.C_ (IntKind.wrap .i64 r25)))
  else (Sc p0 j9))
noncomputable def Se (p0 : Int) (j9 : T_ref02_Instr) (r1 : Int) (j28 : Bool) : Option (T_ref02_Instr × Int) :=
  Sd p0 j9 r1 j28
noncomputable def Sf (p0 : Int) (j9 : T_ref02_Instr) (r1 : Int) (j10 : Bool) : Option (T_ref02_Instr × Int) :=
  if j10 = true then (Af (Ut p0 16) fun r18 =>
  Qs p0 (T_ref02_Instr.mk j9.Op_ j9.A_ j9.B_ j9.C_ (IntKind.wrap .i64 r18)))
  else (if (r1 == 2) = true then (Sd p0 j9 r1 (r1 == 2))
  else (if (r1 == 4) = true then (Se p0 j9 r1 (r1 == 4))
  else (Se p0 j9 r1 (r1 == 8))))
noncomputable def Sg (r1 : Int) (p0 : Int) (j9 : T_ref02_Instr) : Option (T_ref02_Instr × Int) :=
  if (r1 == 1) = true then (Sf p0 j9 r1 (r1 == 1))
  else (Sf p0 j9 r1 (r1 == 3))
noncomputable def Si (r5 : Bool) (r1 : Int) (p0 : Int) (j8 : T_ref02_Instr) : Option (T_ref02_Instr × Int) :=
  if r5 = true then (Sg r1 p0 (T_ref02_Instr.mk j8.Op_ j8.A_ j8.B_ (IntKind.wrap .i64 (Int.tmod p0 16)) j8.Imm_))
  else (Sg r1 p0 j8)
noncomputable def Sj (r4 : Bool) (r5 : Bool) (r1 : Int) (p0 : Int) (j7 : T_ref02_Instr) : Option (T_ref02_Instr × Int) :=
  if r4 = true then (Si r5 r1 p0 (T_ref02_Instr.mk j7.Op_ j7.A_ (IntKind.wrap .i64 (Int.tmod (IntKind.wrap .u32 (Int.tdiv p0 65536)) 16)) j7.C_ j7.Imm_))
  else (Si r5 r1 p0 j7)
noncomputable def pV  (p0 : Int) : Option (T_ref02_Instr × Int) :=
  Af (Dw (IntKind.wrap .i64 (IntKind.wrap .u32 (Int.tdiv p0 16777216)))) fun r1 =>
  Vt (Ln r1) fun r3 r4 r5 =>
  if r3 = true then (Sj r4 r5 r1 p0 (T_ref02_Instr.mk (IntKind.wrap .i64 (IntKind.wrap .u32 (Int.tdiv p0 16777216))) (IntKind.wrap .i64 (Int.tmod (IntKind.wrap .u32 (Int.tdiv p0 1048576)) 16)) 0 0 0))
  else (Sj r4 r5 r1 p0 (T_ref02_Instr.mk (IntKind.wrap .i64 (IntKind.wrap .u32 (Int.tdiv p0 16777216))) 0 0 0 0))
theorem Ih (p0 : Int) (j11 : T_ref02_Instr) : Em p0 j11 = Qs p0 j11 := by
  unfold Em Qs
  simp only [Pl, Pm]
theorem Kh (p0 : Int) (j21 : T_ref02_Instr) : Eo p0 j21 = Sb p0 j21 := by
  unfold Eo Sb
  simp only [Pl, Pm, Ih]
theorem Lf (p0 : Int) (j23 : T_ref02_Instr) : Ep p0 j23 = Sc p0 j23 := by
  unfold Ep Sc
  simp only [Pl, Pm, Ih, Kh]
theorem Mz (p0 : Int) (j9 : T_ref02_Instr) (r1 : Int) (j20 : Bool) : Eq p0 j9 r1 j20 = Sd p0 j9 r1 j20 := by
  unfold Eq Sd
  simp only [Pl, Pm, Ih, Kh, Lf]
theorem O1 (p0 : Int) (j9 : T_ref02_Instr) (r1 : Int) (j28 : Bool) : Er p0 j9 r1 j28 = Se p0 j9 r1 j28 := by
  unfold Er Se
  simp only [Pl, Pm, Ih, Kh, Lf, Mz]
theorem Qt (p0 : Int) (j9 : T_ref02_Instr) (r1 : Int) (j10 : Bool) : Es p0 j9 r1 j10 = Sf p0 j9 r1 j10 := by
  unfold Es Sf
  simp only [Pl, Pm, Ih, Kh, Lf, Mz, O1]
theorem Tw (r1 : Int) (p0 : Int) (j9 : T_ref02_Instr) : Et r1 p0 j9 = Sg r1 p0 j9 := by
  unfold Et Sg
  simp only [Pl, Pm, Ih, Kh, Lf, Mz, O1, Qt]
theorem Zc (r5 : Bool) (r1 : Int) (p0 : Int) (j8 : T_ref02_Instr) : Eu r5 r1 p0 j8 = Si r5 r1 p0 j8 := by
  unfold Eu Si
  simp only [Pl, Pm, Ih, Kh, Lf, Mz, O1, Qt, Tw]
theorem gE (r4 : Bool) (r5 : Bool) (r1 : Int) (p0 : Int) (j7 : T_ref02_Instr) : Ev r4 r5 r1 p0 j7 = Sj r4 r5 r1 p0 j7 := by
  unfold Ev Sj
  simp only [Pl, Pm, Ih, Kh, Lf, Mz, O1, Qt, Tw, Zc]
theorem cK (p0 : Int) : Gq p0 = pV p0 := by
  unfold Gq pV
  simp only [Pl, Pm, Ih, Kh, Lf, Mz, O1, Qt, Tw, Zc, gE]
end Go.Proofs.Abs
namespace Go.Proofs.Abs
open Go
set_option linter.unusedVariables false
set_option linter.unusedSimpArgs false
theorem M3 (x y : T_memory_Mem) (h : D3 x = D3 y) : x = y := by
  obtain ⟨⟨a, b, c, d, e⟩, ws⟩ := x
  obtain ⟨⟨a', b', c', d', e'⟩, ws'⟩ := y
  simp only [D3, List.cons.injEq, Prod.mk.injEq, AV.int.injEq, AV.sl.injEq, true_and, and_true] at h
  obtain ⟨rfl, rfl, rfl, rfl, rfl, h⟩ := h
  rw [Ww mN _ _ h]
theorem Wy (x : T_memory_Mem) : (D3 x).length = 6 := rfl
def Bad (last e : Int) : Bool := (decide (e < last)) || (((Int.tmod e 4) != 0) || (decide (e > 1048576)))
def O2 (L : T_memory_Layout) : Bool := !(Bad 0 L.Code_ || Bad L.Code_ L.Tables_ || Bad L.Tables_ L.Data_ || Bad L.Data_ L.Heap_ || Bad L.Heap_ L.Stack_)
theorem ga5 (a b c d e : Int) : ga (Ij [a, b, c, d, e] : Arr 5 Int) 0 = some a ∧ ga (Ij [a, b, c, d, e] : Arr 5 Int) 1 = some b ∧ ga (Ij [a, b, c, d, e] : Arr 5 Int) 2 = some c ∧ ga (Ij [a, b, c, d, e] : Arr 5 Int) 3 = some d ∧ ga (Ij [a, b, c, d, e] : Arr 5 Int) 4 = some e := ⟨rfl, rfl, rfl, rfl, rfl⟩
theorem gF (L : T_memory_Layout) : Lz L = some (O2 L) := by
  obtain ⟨a, b, c, d, e⟩ := L
  obtain ⟨g0, g1, g2, g3, g4⟩ := ga5 a b c d e
  have step : ∀ (last i v : Int), ga (Ij [a, b, c, d, e] : Arr 5 Int) i = some v → 0 ≤ i → i < 5 → F1 (Ij [a, b, c, d, e] : Arr 5 Int) last i = if Bad last v = true then some (Sum.inr (Sum.inr ())) else some (Sum.inl (v, i + 1)) := by
    intro last i v hv h0 h5
    unfold F1
    rw [if_pos (by simpa using h5), hv, Aa, Av (i + 1) (by omega) (by omega)]
    rfl
  have fin : ∀ last : Int, F1 (Ij [a, b, c, d, e] : Arr 5 Int) last 5 = some (Sum.inr (Sum.inl ())) := fun _ => rfl
  unfold Lz Ig O2
  simp only [Aa]
  rw [Gb, step 0 0 a g0 (by omega) (by omega)]
  cases h0 : Bad 0 a with
  | true => simp [Aa, Kw]
  | false =>
    simp only [Bool.false_eq_true, if_false, Int.reduceAdd]
    rw [Gb, step a 1 b g1 (by omega) (by omega)]
    cases h1 : Bad a b with
    | true => simp [Aa, Kw]
    | false =>
      simp only [Bool.false_eq_true, if_false, Int.reduceAdd]
      rw [Gb, step b 2 c g2 (by omega) (by omega)]
      cases h2 : Bad b c with
      | true => simp [Aa, Kw]
      | false =>
        simp only [Bool.false_eq_true, if_false, Int.reduceAdd]
        rw [Gb, step c 3 d g3 (by omega) (by omega)]
        cases h3 : Bad c d with
        | true => simp [Aa, Kw]
        | false =>
          simp only [Bool.false_eq_true, if_false, Int.reduceAdd]
          rw [Gb, step d 4 e g4 (by omega) (by omega)]
          cases h4 : Bad d e with
          | true => simp [Aa, Kw]
          | false =>
            simp only [Bool.false_eq_true, if_false, Int.reduceAdd]
            rw [Gb]
            have := fin e
            simp [this, Aa, Ul]
def pA (L : T_memory_Layout) : Arr 5 Int := (Ij [L.Code_, L.Tables_, L.Data_, L.Heap_, L.Stack_] : Arr 5 Int)
theorem aR (L : T_memory_Layout) : Ld L = some (pA L) := rfl
theorem eH (L : T_memory_Layout) (h0 : 0 ≤ L.Code_) : Lo (pA L) = some (O2 L) := by
  obtain ⟨a, b, c, d, e⟩ := L
  obtain ⟨g0, g1, g2, g3, g4⟩ := ga5 a b c d e
  have first : D9 (Ij [a, b, c, d, e] : Arr 5 Int) 0 = if Bad 0 a = true then some (Sum.inr (Sum.inr ())) else some (Sum.inl (0 + 1)) := by
    unfold D9
    rw [if_pos (by decide)]
    simp only [g0, Aa, Av (0 + 1) (by omega) (by omega)]
    have e1 : (decide (a < 0)) = false := by simpa using h0
    simp only [Bad, e1, Bool.false_or]
    cases h1 : (Int.tmod a 4 != 0) with
    | true => simp [Aa]
    | false =>
      cases h2 : decide (a > 1048576) with
      | true => simp [Aa, h2]
      | false => simp [Aa, h2]
  have step : ∀ (last i v : Int), ga (Ij [a, b, c, d, e] : Arr 5 Int) i = some v → ga (Ij [a, b, c, d, e] : Arr 5 Int) (i - 1) = some last → 0 < i → i < 5 → D9 (Ij [a, b, c, d, e] : Arr 5 Int) i = if Bad last v = true then some (Sum.inr (Sum.inr ())) else some (Sum.inl (i + 1)) := by
    intro last i v hv hl h0 h5
    unfold D9
    rw [if_pos (by simpa using h5)]
    simp only [hv, Aa, Av (i + 1) (by omega) (by omega), Av (i - 1) (by omega) (by omega), hl]
    have e1 : (decide (i > 0)) = true := by simpa using h0
    simp only [e1, if_true, Bad]
    rcases Ax (Int.tmod v 4 != 0) with h1 | h1 <;> rcases Ax (decide (v > 1048576)) with h2 | h2 <;> rcases Ax (decide (v < last)) with h3 | h3 <;> simp only [h1, h2, h3, if_true, if_false, Aa, Bool.false_eq_true, Bool.or_true, Bool.true_or, Bool.or_false, Bool.false_or]
  have fin : D9 (Ij [a, b, c, d, e] : Arr 5 Int) 5 = some (Sum.inr (Sum.inl ())) := rfl
  show Lo (Ij [a, b, c, d, e] : Arr 5 Int) = _
  unfold Lo O2
  rw [Gb, first]
  cases h0 : Bad 0 a with
  | true => simp [Aa, Kw]
  | false =>
    simp only [Bool.false_eq_true, if_false, Int.reduceAdd]
    rw [Gb, step a 1 b g1 g0 (by omega) (by omega)]
    cases h1 : Bad a b with
    | true => simp [Aa, Kw]
    | false =>
      simp only [Bool.false_eq_true, if_false, Int.reduceAdd]
      rw [Gb, step b 2 c g2 g1 (by omega) (by omega)]
      cases h2 : Bad b c with
      | true => simp [Aa, Kw]
      | false =>
        simp only [Bool.false_eq_true, if_false, Int.reduceAdd]
        rw [Gb, step c 3 d g3 g2 (by omega) (by omega)]
        cases h3 : Bad c d with
        | true => simp [Aa, Kw]
        | false =>
          simp only [Bool.false_eq_true, if_false, Int.reduceAdd]
          rw [Gb, step d 4 e g4 g3 (by omega) (by omega)]
          cases h4 : Bad d e with
          | true => simp [Aa, Kw]
          | false =>
            simp only [Bool.false_eq_true, if_false, Int.reduceAdd]
            rw [Gb]
            have := fin
            simp [this, Aa, Ul]
structure Rt5 (L : T_memory_Layout) : Prop where
  c0 : 0 ≤ L.Code_
  c1 : L.Code_ ≤ L.Tables_
  c2 : L.Tables_ ≤ L.Data_
  c3 : L.Data_ ≤ L.Heap_
  c4 : L.Heap_ ≤ L.Stack_
  m : L.Stack_ ≤ 1048576
  d0 : L.Code_ % 4 = 0
  d1 : L.Tables_ % 4 = 0
  d4 : L.Stack_ % 4 = 0
theorem rt5 {L : T_memory_Layout} (h : O2 L = true) : Rt5 L := by
  simp only [O2, Bad, Bool.not_eq_true', Bool.or_eq_false_iff, decide_eq_false_iff_not, bne_eq_false_iff_eq] at h
  obtain ⟨⟨⟨⟨⟨a1, a2, a3⟩, b1, b2, b3⟩, c1, c2, c3⟩, d1, d2, d3⟩, e1, e2, e3⟩ := h
  rw [Ey (by omega)] at a2 b2 e2
  exact ⟨by omega, by omega, by omega, by omega, by omega, by omega, a2, b2, e2⟩
end Go.Proofs.Abs
namespace Go.Proofs.Abs
open Go
set_option linter.unusedVariables false
set_option linter.unusedSimpArgs false
theorem Bn (x : Int) : IntKind.i32.wrap x = (x + 2147483648) % 4294967296 - 2147483648 := by
  simp only [IntKind.wrap, IntKind.bits, IntKind.signed]
  simp
  omega
theorem Mg (x : Int) (h1 : -2147483648 ≤ x) (h2 : x ≤ 2147483647) : IntKind.i32.wrap x = x := by rw [Bn]; omega
theorem Kn {x : Int} (h0 : -4611686018427387904 < x) (h1 : x < 4611686018427387904) : Ff x = some (IntKind.i32.wrap x) := by
  unfold Ff Ia Hz
  obtain ⟨y, hy⟩ : ∃ y, y = Int.tmod x 4294967296 := ⟨_, rfl⟩
  have b : -4294967296 < y ∧ y < 4294967296 ∧ (y - x) % 4294967296 = 0 := by
    by_cases c : 0 ≤ x
    · rw [Ey c] at hy; omega
    · have : Int.tmod (-x) 4294967296 = (-x) % 4294967296 := Ey (by omega)
      rw [Int.neg_tmod] at this; omega
  rw [← hy]
  by_cases c : y < 0
  · rw [if_pos (by simpa using c), Av _ (by omega) (by omega)]
    by_cases d : y + 4294967296 ≥ 2147483648
    · rw [if_pos (by simpa using d), Av _ (by omega) (by omega)]
      congr 1; rw [Bn, Bn]; omega
    · rw [if_neg (by simpa using d)]
      congr 1; rw [Bn, Bn]; omega
  · rw [if_neg (by simpa using c)]
    by_cases d : y ≥ 2147483648
    · rw [if_pos (by simpa using d), Av _ (by omega) (by omega)]
      congr 1; rw [Bn, Bn]; omega
    · rw [if_neg (by simpa using d)]
      congr 1; rw [Bn, Bn]; omega
def qU (n s : Int) : Bool := decide ((s = -1 ∨ s = 0 ∧ n = 1 ∨ s = 1 ∧ (n = 2 ∨ n = 20 ∨ n = 21) ∨ s = 2 ∧ (n = 3 ∨ n = 30 ∨ n = 33) ∨ s = 3 ∧ (n = 5 ∨ n = 18 ∨ n = 19) ∨ s = 4 ∧ (n = 4 ∨ n = 26 ∨ n = 34) ∨ s = 5 ∧ 6 ≤ n ∧ n ≤ 17 ∨ s = 6 ∧ (n = 24 ∨ n = 25 ∨ n = 27 ∨ n = 29 ∨ n = 31 ∨ n = 32) ∨ s = 7 ∧ (n = 22 ∨ n = 23) ∨ s = 8 ∧ n = 28))
theorem kF : ((List.range 256).all fun n => match D7 (n : Int) with
    | some s => qU n s && decide (Dw (n : Int) = some s)
    | none => false) = true := by kernel_rfl
theorem eJ {op : Int} (h0 : 0 ≤ op) (h1 : op < 256) : ∃ s, D7 op = some s ∧ Dw op = some s ∧ (s = -1 ∨ s = 0 ∧ op = 1 ∨ s = 1 ∧ (op = 2 ∨ op = 20 ∨ op = 21) ∨ s = 2 ∧ (op = 3 ∨ op = 30 ∨ op = 33) ∨ s = 3 ∧ (op = 5 ∨ op = 18 ∨ op = 19) ∨ s = 4 ∧ (op = 4 ∨ op = 26 ∨ op = 34) ∨ s = 5 ∧ 6 ≤ op ∧ op ≤ 17 ∨ s = 6 ∧ (op = 24 ∨ op = 25 ∨ op = 27 ∨ op = 29 ∨ op = 31 ∨ op = 32) ∨ s = 7 ∧ (op = 22 ∨ op = 23) ∨ s = 8 ∧ op = 28) := by
  obtain ⟨n, rfl⟩ : ∃ n : Nat, op = n := ⟨op.toNat, by omega⟩
  have := List.all_eq_true.1 kF n (List.mem_range.2 (by omega))
  split at this
  · rename_i s hs
    simp only [Bool.and_eq_true, qU, decide_eq_true_eq] at this
    exact ⟨s, hs, this.2, this.1⟩
  · cases this
def s16 (w : Int) : Int := (w % 65536 + 32768) % 65536 - 32768
def s24 (w : Int) : Int := (w % 16777216 + 8388608) % 16777216 - 8388608
def imP (sh n : Int) : Prop := (sh = 1 ∨ sh = 3) ∧ -32768 ≤ n ∧ n < 32768 ∨ (sh = 2 ∨ sh = 4 ∨ sh = 8) ∧ 0 ≤ n ∧ n < 65536 ∨ sh = 7 ∧ -8388608 ≤ n ∧ n < 8388608 ∨ (sh = 0 ∨ sh = 5 ∨ sh = 6) ∧ n = 0
def ckP (sh a b c : Int) : Prop := (sh = 0 ∨ sh = 7 ∨ sh = 8) ∧ a = 0 ∧ b = 0 ∧ c = 0 ∨ (sh = 1 ∨ sh = 2 ∨ sh = 6) ∧ b = 0 ∧ c = 0 ∨ (sh = 3 ∨ sh = 4) ∧ c = 0 ∨ sh = 5
instance (sh a b c : Int) : Decidable (ckP sh a b c) := by unfold ckP; infer_instance
def woP (sh op a b c n : Int) : Int := if sh = 7 then op * 16777216 + n % 16777216 else op * 16777216 + a * 1048576 + b * 65536 + n % 65536 + c
theorem pB {n : Int} (k : Int) (p : Int) (hk : k = 16 ∧ p = 32768 ∨ k = 24 ∧ p = 8388608) : Oc n k = some (decide (-p ≤ n ∧ n < p)) := by
  rcases hk with ⟨rfl, rfl⟩ | ⟨rfl, rfl⟩
  all_goals
    unfold Oc
    rw [if_neg (by decide)]
    have s1 : ∀ q : Int, Qz .i64 (-1) (IntKind.wrap .i64 q) = Qz .i64 (-1) (IntKind.wrap .i64 q) := fun _ => rfl
  · have s1 : Qz .i64 (-1) (IntKind.wrap .i64 ((if (40 : Int) < 16 then (40 : Int) else 16) - 1)) = some (-32768) := by kernel_rfl
    have s2 : Qz .i64 1 (IntKind.wrap .i64 ((if (40 : Int) < 16 then (40 : Int) else 16) - 1)) = some 32768 := by kernel_rfl
    rw [s1, Aa, s2]
    by_cases c : n ≥ -32768
    · rw [if_pos (by simpa using c), Aa, Aa]
      by_cases d : n < 32768
      · rw [decide_eq_true d, decide_eq_true ⟨c, d⟩]
      · rw [decide_eq_false d, decide_eq_false (fun h => d h.2)]
    · rw [if_neg (by simpa using c), Aa, decide_eq_false (fun h => c h.1)]
  · have s1 : Qz .i64 (-1) (IntKind.wrap .i64 ((if (40 : Int) < 24 then (40 : Int) else 24) - 1)) = some (-8388608) := by kernel_rfl
    have s2 : Qz .i64 1 (IntKind.wrap .i64 ((if (40 : Int) < 24 then (40 : Int) else 24) - 1)) = some 8388608 := by kernel_rfl
    rw [s1, Aa, s2]
    by_cases c : n ≥ -8388608
    · rw [if_pos (by simpa using c), Aa, Aa]
      by_cases d : n < 8388608
      · rw [decide_eq_true d, decide_eq_true ⟨c, d⟩]
      · rw [decide_eq_false d, decide_eq_false (fun h => d h.2)]
    · rw [if_neg (by simpa using c), Aa, decide_eq_false (fun h => c h.1)]
theorem mQ {n : Int} : Nf n 16 = some (decide (0 ≤ n ∧ n < 65536)) := by
  unfold Nf
  have s2 : Qz .i64 1 (if (40 : Int) < 16 then (40 : Int) else 16) = some 65536 := by kernel_rfl
  rw [if_pos (by decide)]
  by_cases c : n ≥ 0
  · rw [if_pos (by simpa using c), s2, Aa, Aa]
    by_cases d : n < 65536
    · rw [decide_eq_true d, decide_eq_true ⟨c, d⟩]
    · rw [decide_eq_false d, decide_eq_false (fun h => d h.2)]
  · rw [if_neg (by simpa using c), Aa, decide_eq_false (fun h => c h.1)]
theorem gG {a : Int} (h0 : 0 ≤ a) (h1 : a < 16) : Mv a = some true := by
  unfold Mv; simp [h0, h1]
theorem pW {op n : Int} (h0 : 0 ≤ op) (h1 : op < 128) : A9 .or .u32 (IntKind.wrap .u32 (IntKind.wrap .u32 op * 2 ^ 24)) (A9 .and .u32 (IntKind.wrap .u32 n) 16777215) = op * 16777216 + n % 16777216 := by
  rw [Cj op h0 (by omega), Cj (op * 2 ^ 24) (by omega) (by omega), pU _ (by rw [Jt]; omega) (by rw [Jt]; omega), Jt, Sa 24 op _ h0 (by omega) (by omega) (by omega)]
  omega
theorem sP {op a b c n sh : Int} (hs : D7 op = some sh) (hi : imP sh n) (h0 : 0 ≤ op) (h1 : op < 128) (a0 : 0 ≤ a) (a1 : a < 16) (b0 : 0 ≤ b) (b1 : b < 16) (c0 : 0 ≤ c) (c1 : c < 16) (hc : c = 0 ∨ n = 0) :
    Do ⟨op, a, b, c, n⟩ = some (if ckP sh a b c then (woP sh op a b c n, 0) else (0, 20)) := by
  have sr : 0 ≤ sh ∧ sh ≤ 8 := by rcases hi with h | h | h | h <;> omega
  have im : P7 ⟨op, a, b, c, n⟩ sh = some true := by
    unfold P7 Kl Kk Kj
    have f16 := pB (n := n) 16 32768 (.inl ⟨rfl, rfl⟩)
    have f24 := pB (n := n) 24 8388608 (.inr ⟨rfl, rfl⟩)
    rcases hi with ⟨rfl | rfl, h⟩ | ⟨rfl | rfl | rfl, h⟩ | ⟨rfl, h⟩ | ⟨rfl | rfl | rfl, h⟩ <;> simp [f16, f24, mQ, h, Aa] <;> omega
  have ck : Lk ⟨op, a, b, c, n⟩ = some (if ckP sh a b c then 0 else 20) := by
    unfold Lk
    rw [hs, Aa, if_neg (by simp; omega), gG a0 a1, Aa, if_neg (by decide), gG b0 b1, Aa, if_neg (by decide), gG c0 c1, Aa, if_neg (by decide), im, Aa, Aa, if_neg (by decide)]
    unfold He Hd Hc Hb Ha G9 G8 ckP
    have : sh = 0 ∨ sh = 1 ∨ sh = 2 ∨ sh = 3 ∨ sh = 4 ∨ sh = 5 ∨ sh = 6 ∨ sh = 7 ∨ sh = 8 := by omega
    rcases this with rfl | rfl | rfl | rfl | rfl | rfl | rfl | rfl | rfl <;> simp <;> grind
  unfold Do
  rw [ck, Aa]
  by_cases k : ckP sh a b c
  · rw [if_pos k, if_pos k, if_neg (by decide), hs, Aa]
    unfold woP
    by_cases s7 : sh = 7
    · rw [if_pos (by simpa using s7), if_pos s7, pW h0 h1]
    · rw [if_neg (by simpa using s7), if_neg s7, oH op a b n c h0 h1 a0 a1 b0 b1 c0 c1 (by rcases hc with h | h <;> simp [h])]
  · rw [if_neg k, if_neg k, if_pos (by decide)]
theorem sQ {op a b c n sh : Int} (hs : Dw op = some sh) (hi : imP sh n) (h0 : 0 ≤ op) (h1 : op < 128) (a0 : 0 ≤ a) (a1 : a < 16) (b0 : 0 ≤ b) (b1 : b < 16) (c0 : 0 ≤ c) (c1 : c < 16) (hk : ckP sh a b c) :
    Dq ⟨op, a, b, c, n⟩ = some (woP sh op a b c n, 0) := by
  have sr : 0 ≤ sh ∧ sh ≤ 8 := by rcases hi with h | h | h | h <;> omega
  have ck : Ic ⟨op, a, b, c, n⟩ = some 0 := by
    unfold Ic
    rw [hs, Aa, if_neg (by simp; omega)]
    unfold Ln Fw Fv Fu Ft Fs Fp
    unfold ckP at hk
    have : sh = 0 ∨ sh = 1 ∨ sh = 2 ∨ sh = 3 ∨ sh = 4 ∨ sh = 5 ∨ sh = 6 ∨ sh = 7 ∨ sh = 8 := by omega
    unfold imP at hi
    rcases this with rfl | rfl | rfl | rfl | rfl | rfl | rfl | rfl | rfl <;> simp [Ou] at hk hi ⊢ <;> grind
  have nb : -8388608 ≤ n ∧ n < 8388608 := by rcases hi with h | h | h | h <;> omega
  unfold Dq
  rw [ck, Aa, if_neg (by decide), hs, Aa]
  unfold woP
  by_cases s7 : sh = 7
  · rw [if_pos (by simpa using s7), if_pos s7, Av (op * 16777216) (by omega) (by omega), Av (n + 16777216) (by omega) (by omega), Ey (by omega), Av _ (by omega) (by omega), Cj _ (by omega) (by omega)]
    congr 2; omega
  · have nb : -32768 ≤ n ∧ n < 65536 := by rcases hi with h | h | h | h <;> omega
    have m : Int.tmod (IntKind.wrap .i64 (n + 65536)) 65536 = n % 65536 := by rw [Av _ (by omega) (by omega), Ey (by omega)]; omega
    rw [if_neg (by simpa using s7), if_neg s7]
    simp only [m]
    rw [Av (op * 16777216) (by omega) (by omega), Av (a * 1048576) (by omega) (by omega), Av (b * 65536) (by omega) (by omega), Av (op * 16777216 + a * 1048576) (by omega) (by omega), Av (op * 16777216 + a * 1048576 + b * 65536) (by omega) (by omega), Av (op * 16777216 + a * 1048576 + b * 65536 + n % 65536) (by omega) (by omega), Av _ (by omega) (by omega), Cj _ (by omega) (by omega)]
end Go.Proofs.Abs
namespace Go.Proofs.Abs
open Go
set_option linter.unusedVariables false
set_option linter.unusedSimpArgs false
def dvI (w sh : Int) : T_instr_Instr := if sh = 7 then ⟨w / 16777216, 0, 0, 0, s24 w⟩ else
  ⟨w / 16777216, w / 1048576 % 16, w / 65536 % 16, if sh = 5 then w % 16 else 0, if sh = 1 ∨ sh = 3 then s16 w else if sh = 2 ∨ sh = 4 ∨ sh = 8 then w % 65536 else 0⟩
def Zv (w sh : Int) : Prop := sh ≠ -1 ∧ ckP sh (dvI w sh).A_ (dvI w sh).B_ (dvI w sh).C_ ∧ woP sh (dvI w sh).Op_ (dvI w sh).A_ (dvI w sh).B_ (dvI w sh).C_ (dvI w sh).Imm_ = w
instance (w sh : Int) : Decidable (Zv w sh) := by unfold Zv; infer_instance
def shR (sh : Int) : Prop := sh = -1 ∨ sh = 0 ∨ sh = 1 ∨ sh = 2 ∨ sh = 3 ∨ sh = 4 ∨ sh = 5 ∨ sh = 6 ∨ sh = 7 ∨ sh = 8
theorem mR {w sh : Int} (w0 : 0 ≤ w) (h : shR sh) (hn : sh ≠ -1) : imP sh (dvI w sh).Imm_ := by
  unfold imP dvI s16 s24
  rcases h with rfl | rfl | rfl | rfl | rfl | rfl | rfl | rfl | rfl | rfl <;> simp <;> omega
theorem eK {w sh : Int} (w0 : 0 ≤ w) (w1 : w < 4294967296) : (dvI w sh).Op_ = w / 16777216 ∧ 0 ≤ (dvI w sh).A_ ∧ (dvI w sh).A_ < 16 ∧ 0 ≤ (dvI w sh).B_ ∧ (dvI w sh).B_ < 16 ∧ 0 ≤ (dvI w sh).C_ ∧ (dvI w sh).C_ < 16 ∧ ((dvI w sh).C_ = 0 ∨ (dvI w sh).Imm_ = 0) := by
  unfold dvI
  split
  · refine ⟨rfl, ?_⟩; simp
  · refine ⟨rfl, ?_, ?_, ?_, ?_, ?_, ?_, ?_⟩ <;> simp only [] <;> grind
section
variable {w : Int}
theorem qV (w0 : 0 ≤ w) (w1 : w < 4294967296) : Ll w 16 = some (s16 w) ∧ Ll w 24 = some (s24 w) := by
  have g : ∀ k : Int, k = 16 ∨ k = 8 → Af (Qz .u32 w k) (fun v2 => Af (dW .i32 (IntKind.wrap .i32 v2) k) fun v4 => some v4) = some (if k = 16 then s16 w else s24 w) := by
    rintro k (rfl | rfl)
    · have e1 : Qz .u32 w 16 = some (IntKind.wrap .u32 (w * 65536)) := by unfold Qz; rfl
      have e2 : ∀ v : Int, dW .i32 v 16 = some (v / 65536) := fun v => by
        unfold dW
        rw [if_neg (by decide)]
        congr 1
        show Int.fdiv v 65536 = _
        rw [Int.fdiv_eq_ediv_of_nonneg _ (by decide)]
      rw [e1, Aa, e2, Aa, if_pos rfl, Jt, Bn]
      unfold s16
      congr 1; omega
    · have e1 : Qz .u32 w 8 = some (IntKind.wrap .u32 (w * 256)) := by unfold Qz; rfl
      have e2 : ∀ v : Int, dW .i32 v 8 = some (v / 256) := fun v => by
        unfold dW
        rw [if_neg (by decide)]
        congr 1
        show Int.fdiv v 256 = _
        rw [Int.fdiv_eq_ediv_of_nonneg _ (by decide)]
      rw [e1, Aa, e2, Aa, if_neg (by decide), Jt, Bn]
      unfold s24
      congr 1; omega
  have k1 : IntKind.wrap .i64 (32 - (if (32 : Int) < 16 then 32 else 16)) = 16 := by kernel_rfl
  have k2 : IntKind.wrap .i64 (32 - (if (32 : Int) < 24 then 32 else 24)) = 8 := by kernel_rfl
  constructor
  · unfold Ll
    rw [if_neg (by decide), k1]
    exact g 16 (.inl rfl)
  · unfold Ll
    rw [if_neg (by decide), k2]
    exact g 8 (.inr rfl)
theorem sR {sh : Int} (w0 : 0 ≤ w) (w1 : w < 4294967296) (hs : D7 (w / 16777216) = some sh) (hr : shR sh) (h128 : sh ≠ -1 → w / 16777216 < 128) : Km w = some (if Zv w sh then (dvI w sh, 0) else (⟨0, 0, 0, 0, 0⟩, 21)) := by
  have fd : ∀ k : Nat, k = 24 ∨ k = 20 ∨ k = 16 → Int.fdiv w (2 ^ k) = w / 2 ^ k := fun k hk => Int.fdiv_eq_ediv_of_nonneg _ (by rcases hk with rfl | rfl | rfl <;> decide)
  have p24 : (2 : Int) ^ 24 = 16777216 := by decide
  have p20 : (2 : Int) ^ 20 = 1048576 := by decide
  have p16 : (2 : Int) ^ 16 = 65536 := by decide
  have and15 : ∀ a : Int, 0 ≤ a → a < 4294967296 → A9 .and .u32 a 15 = a % 16 := fun a h0 h1 => cJ 4 a h0 h1 (by decide)
  have e1 : IntKind.wrap .i64 (Int.fdiv w (2 ^ 24)) = w / 16777216 := by rw [fd 24 (by simp), p24, Av _ (by omega) (by omega)]
  have e2 : IntKind.wrap .i64 (A9 .and .u32 (Int.fdiv w (2 ^ 20)) 15) = w / 1048576 % 16 := by rw [fd 20 (by simp), p20, and15 _ (by omega) (by omega), Av _ (by omega) (by omega)]
  have e3 : IntKind.wrap .i64 (A9 .and .u32 (Int.fdiv w (2 ^ 16)) 15) = w / 65536 % 16 := by rw [fd 16 (by simp), p16, and15 _ (by omega) (by omega), Av _ (by omega) (by omega)]
  have e4 : IntKind.wrap .i64 (A9 .and .u32 w 15) = w % 16 := by rw [and15 _ w0 w1, Av _ (by omega) (by omega)]
  have e5 : IntKind.wrap .i64 (A9 .and .u32 w 65535) = w % 65536 := by rw [mP w w0 w1, Av _ (by omega) (by omega)]
  obtain ⟨x1, x2⟩ := qV w0 w1
  have e6 : IntKind.wrap .i64 (s16 w) = s16 w := Av _ (by unfold s16; omega) (by unfold s16; omega)
  have e7 : IntKind.wrap .i64 (s24 w) = s24 w := Av _ (by unfold s24; omega) (by unfold s24; omega)
  have fin : ∀ x, sh ≠ -1 → x = dvI w sh → Dv w x = some (if Zv w sh then (dvI w sh, 0) else (⟨0, 0, 0, 0, 0⟩, 21)) := by
    rintro _ hn rfl
    obtain ⟨r0, r1, r2, r3, r4, r5, r6, r7⟩ := eK (w := w) (sh := sh) w0 w1
    have pe := sP (op := (dvI w sh).Op_) (sh := sh) (by rw [r0]; exact hs) (mR w0 hr hn) (by omega) (by rw [r0]; exact h128 hn) r1 r2 r3 r4 r5 r6 r7
    unfold Dv
    have : dvI w sh = ⟨(dvI w sh).Op_, (dvI w sh).A_, (dvI w sh).B_, (dvI w sh).C_, (dvI w sh).Imm_⟩ := rfl
    rw [← this] at pe
    rw [pe]
    by_cases k : ckP sh (dvI w sh).A_ (dvI w sh).B_ (dvI w sh).C_
    · rw [if_pos k, Ay]
      by_cases q : woP sh (dvI w sh).Op_ (dvI w sh).A_ (dvI w sh).B_ (dvI w sh).C_ (dvI w sh).Imm_ = w
      · rw [if_neg (by simp [q]), if_pos ⟨hn, k, q⟩]
      · rw [if_pos (by simp [q]), if_neg (fun h => q h.2.2)]
    · rw [if_neg k, Ay, if_pos (by simp), if_neg (fun h => k h.2.1)]
  unfold Km
  rw [e1, e2, e3, hs, Aa]
  rcases hr with rfl | hr
  · rw [if_pos (by decide), if_neg (fun h => h.1 rfl)]
    unfold Ei Eh Eg Ef Ee Ed Ec Dv
    have : Do ⟨w / 16777216, w / 1048576 % 16, w / 65536 % 16, 0, 0⟩ = some (0, 21) := by
      unfold Do Lk
      rw [hs, Aa]; rfl
    simp [this, Ay]
  · rcases hr with rfl | rfl | rfl | rfl | rfl | rfl | rfl | rfl | rfl
    all_goals
      simp only [Ei, Eh, Eg, Ef, Ee, Ed, Ec, x1, x2, Aa, e4, e5, e6, e7]
      simp (config := { decide := true }) only [if_true, if_false, reduceIte, Bool.false_eq_true]
      exact fin _ (by decide) (by unfold dvI; simp)
def toI (x : T_instr_Instr) : T_ref02_Instr := ⟨x.Op_, x.A_, x.B_, x.C_, x.Imm_⟩
theorem qW (w0 : 0 ≤ w) (w1 : w < 4294967296) : Ut w 16 = some (s16 w) ∧ Ut w 24 = some (s24 w) := by
  constructor
  · unfold Ut
    have e : (2 : Int) ^ (16 : Int).toNat = 65536 := by decide
    have r : Rm .i64 (IntKind.wrap .i64 w) 65536 = some (w % 65536) := by
      unfold Rm
      rw [if_neg (by decide), Av w (by omega) (by omega), Ey w0]
    have t : IntKind.wrap .i64 (Int.tdiv 65536 2) = 32768 := by kernel_rfl
    rw [e, r, Aa, t]
    unfold D4 s16
    by_cases c : w % 65536 ≥ 32768
    · rw [if_pos (by simpa using c), Av _ (by omega) (by omega), Kn (by omega) (by omega), Aa, Mg _ (by omega) (by omega)]
      congr 1; omega
    · rw [if_neg (by simpa using c), Kn (by omega) (by omega), Aa, Mg _ (by omega) (by omega)]
      congr 1; omega
  · unfold Ut
    have e : (2 : Int) ^ (24 : Int).toNat = 16777216 := by decide
    have r : Rm .i64 (IntKind.wrap .i64 w) 16777216 = some (w % 16777216) := by
      unfold Rm
      rw [if_neg (by decide), Av w (by omega) (by omega), Ey w0]
    have t : IntKind.wrap .i64 (Int.tdiv 16777216 2) = 8388608 := by kernel_rfl
    rw [e, r, Aa, t]
    unfold D4 s24
    by_cases c : w % 16777216 ≥ 8388608
    · rw [if_pos (by simpa using c), Av _ (by omega) (by omega), Kn (by omega) (by omega), Aa, Mg _ (by omega) (by omega)]
      congr 1; omega
    · rw [if_neg (by simpa using c), Kn (by omega) (by omega), Aa, Mg _ (by omega) (by omega)]
      congr 1; omega
theorem sS {sh : Int} (w0 : 0 ≤ w) (w1 : w < 4294967296) (hs : Dw (w / 16777216) = some sh) (hr : shR sh) (h128 : sh ≠ -1 → w / 16777216 < 128) : Gq w = some (if Zv w sh then (toI (dvI w sh), 0) else (⟨0, 0, 0, 0, 0⟩, 21)) := by
  have e1 : IntKind.wrap .i64 (IntKind.wrap .u32 (Int.tdiv w 16777216)) = w / 16777216 := by rw [Il w0, Cj _ (by omega) (by omega), Av _ (by omega) (by omega)]
  have e2 : IntKind.wrap .i64 (Int.tmod (IntKind.wrap .u32 (Int.tdiv w 1048576)) 16) = w / 1048576 % 16 := by rw [Il w0, Cj _ (by omega) (by omega), Ey (by omega), Av _ (by omega) (by omega)]
  have e3 : IntKind.wrap .i64 (Int.tmod (IntKind.wrap .u32 (Int.tdiv w 65536)) 16) = w / 65536 % 16 := by rw [Il w0, Cj _ (by omega) (by omega), Ey (by omega), Av _ (by omega) (by omega)]
  have e4 : IntKind.wrap .i64 (Int.tmod w 16) = w % 16 := by rw [Ey w0, Av _ (by omega) (by omega)]
  have e5 : IntKind.wrap .i64 (Int.tmod w 65536) = w % 65536 := by rw [Ey w0, Av _ (by omega) (by omega)]
  obtain ⟨x1, x2⟩ := qW w0 w1
  have e6 : IntKind.wrap .i64 (s16 w) = s16 w := Av _ (by unfold s16; omega) (by unfold s16; omega)
  have e7 : IntKind.wrap .i64 (s24 w) = s24 w := Av _ (by unfold s24; omega) (by unfold s24; omega)
  have fin : ∀ a b c n : Int, 0 ≤ a → a < 16 → 0 ≤ b → b < 16 → 0 ≤ c → c < 16 → imP sh n → ckP sh a b c → (Zv w sh ↔ woP sh (w / 16777216) a b c n = w) → (woP sh (w / 16777216) a b c n = w → toI (dvI w sh) = ⟨w / 16777216, a, b, c, n⟩) → sh ≠ -1 →
      Qs w ⟨w / 16777216, a, b, c, n⟩ = some (if Zv w sh then (toI (dvI w sh), 0) else (⟨0, 0, 0, 0, 0⟩, 21)) := fun a b c n a0 a1 b0 b1 c0 c1 hi hk h1 h2 hn => by
    unfold Qs
    rw [sQ hs hi (by omega) (h128 hn) a0 a1 b0 b1 c0 c1 hk, Ay]
    by_cases q : woP sh (w / 16777216) a b c n = w
    · rw [if_neg (by simp [q]), if_pos (h1.2 q), h2 q]
    · rw [if_pos (by simp [q]), if_neg (fun h => q (h1.1 h))]
  rw [cK]
  unfold pV
  rw [e1, e2, hs, Aa]
  unfold Ln
  rw [Ou]
  rcases hr with rfl | hr
  · rw [if_neg (fun h => h.1 rfl : ¬ Zv w (-1))]
    have : Dq ⟨w / 16777216, 0, 0, 0, 0⟩ = some (0, 21) := by
      unfold Dq Ic
      rw [hs, Aa]; rfl
    simp [Sj, Si, Sg, Sf, Se, Sd, Sc, Sb, Qs, this, Ay]
  · rcases hr with rfl | rfl | rfl | rfl | rfl | rfl | rfl | rfl | rfl
    all_goals
      simp only [Sj, Si, Sg, Sf, Se, Sd, Sc, Sb, x1, x2, Aa, e3, e4, e5, e6, e7]
      simp (config := { decide := true }) only [if_true, if_false, reduceIte, Bool.false_eq_true]
      refine fin _ _ _ _ (by omega) (by omega) (by omega) (by omega) (by omega) (by omega) ?_ ?_ ?_ ?_ (by decide)
      · simp [imP, s16, s24] <;> omega
      · unfold ckP; simp
      · unfold Zv ckP woP dvI s16 s24; simp <;> omega
      · unfold woP toI dvI s16 s24; simp <;> omega
end
end Go.Proofs.Abs
namespace Go.Proofs.Abs
open Go
set_option linter.unusedVariables false
set_option linter.unusedSimpArgs false
theorem Zd : 1048576 ≤ Ml := Nat.le_of_ble_eq_true (by kernel_rfl)
theorem Uu {α : Type} {zb : Nat} {xs ys : List α} (h : (xs.length + ys.length) * zb ≤ 1048576) : app zb xs ys = some (xs ++ ys) := by
  unfold app; rw [if_pos (Nat.le_trans h Zd)]
/-! registers -/
def Arr.put {n : Nat} (a : Arr n Int) (j : Nat) (v : Int) : Arr n Int := ⟨a.l.set j v, by rw [List.length_set, a.h]⟩
theorem mS {n : Nat} {a : Arr n Int} {j : Int} (h0 : 0 ≤ j) (h : j < n) : ga a j = some (a.g j.toNat) := by
  unfold ga Arr.g
  have hl := a.h
  rw [if_pos (by omega), List.getElem?_eq_getElem (by omega)]; rfl
theorem gH {n : Nat} {a : Arr n Int} {j : Int} {v : Int} (h0 : 0 ≤ j) (h : j < n) : sa a j v = some (a.put j.toNat v) := by
  unfold sa
  rw [if_pos ⟨by omega, by omega⟩]
  rfl
theorem qX {n : Nat} {a : Arr n Int} {j k : Nat} {v : Int} (h : j < n) : (a.put j v).g k = if j = k then v else a.g k := by
  unfold Arr.g Arr.put
  have hl := a.h
  by_cases c : j = k
  · subst c; simp [hl, h]
  · simp [c]
theorem oI {n : Nat} {a : Arr n Int} {j : Nat} {u v : Int} : (a.put j u).put j v = a.put j v := by
  unfold Arr.put; congr 1; simp
theorem Sk (R : Arr 16 Int) (v : Int) : (Ij [R.g 0, R.g 1, R.g 2, R.g 3, R.g 4, R.g 5, R.g 6, R.g 7, R.g 8, R.g 9, R.g 10, R.g 11, R.g 12, R.g 13, v, R.g 15] : Arr 16 Int) = R.put 14 v := by
  obtain ⟨l, h⟩ := R
  unfold Arr.put Arr.g Ij
  congr 1
  match l, h with
  | [a0, a1, a2, a3, a4, a5, a6, a7, a8, a9, a10, a11, a12, a13, a14, a15], _ => rfl
theorem kG {A B : Arr 16 Int} (h : ∀ q, q < 16 → A.g q = B.g q) : A = B := by
  obtain ⟨a, ha⟩ := A; obtain ⟨b, hb⟩ := B
  have : a = b := by
    apply List.ext_getElem (by omega)
    intro q h1 h2
    have := h q (by omega)
    unfold Arr.g at this
    simpa [h1, h2] using this
  subst this; rfl
/-! the document's memory -/
theorem aS (p2 : List Int) : ∀ (n : Nat) (p1 : Int) (a5 : List Int) (a6 : Int), 0 ≤ a6 → a6 + n = p2.length → 0 ≤ p1 → p1 + p2.length ≤ a5.length → (a5.length : Int) ≤ 4294967295 →
    Ik (fun (x : List Int × Int) => Cw p2 p1 x.1 x.2) (a5, a6) = some (A6 a5 (p1 + a6).toNat (p2.drop a6.toNat))
  | 0, p1, a5, a6, h0, h1, h2, h3, h4 => by
    rw [Ob (r := a5)]
    · have : p2.drop a6.toNat = [] := List.drop_eq_nil_of_le (by omega)
      rw [this]
      simp [A6]
    · show Cw p2 p1 a5 a6 = _
      unfold Cw
      have c : (decide (a6 < (p2.length : Int))) = false := by simp; omega
      simp [c]
  | n + 1, p1, a5, a6, h0, h1, h2, h3, h4 => by
    have hlt : a6 < p2.length := by omega
    have e : Cw p2 p1 a5 a6 = some (.inl (a5.set (p1 + a6).toNat (p2[a6.toNat]'(by omega)), a6 + 1)) := by
      unfold Cw
      have c : (decide (a6 < (p2.length : Int))) = true := by simp; omega
      rw [if_pos c, Qp h0 hlt, Aa, Av (p1 + a6) (by omega) (by omega), Qp (by omega) (by omega), Aa, iO (by omega) (by omega), Aa, Av (a6 + 1) (by omega) (by omega)]
    rw [Rn (s' := (a5.set (p1 + a6).toNat (p2[a6.toNat]'(by omega)), a6 + 1)) e]
    rw [aS p2 n p1 _ (a6 + 1) (by omega) (by omega) h2 (by simpa using h3) (by simpa using h4)]
    congr 1
    have e1 : (p1 + (a6 + 1)).toNat = (p1 + a6).toNat + 1 := by omega
    have e2 : (a6 + 1).toNat = a6.toNat + 1 := by omega
    have e3 : p2.drop a6.toNat = p2[a6.toNat]'(by omega) :: p2.drop (a6.toNat + 1) := by rw [List.drop_eq_getElem_cons]
    rw [e1, e2, e3]
    apply List.ext_getElem?
    intro j
    simp only [A6, List.getElem?_append, List.length_append, List.length_take, List.getElem?_take, List.getElem?_drop, List.length_drop, List.length_set, List.getElem?_set, List.length_cons, List.getElem?_cons]
    grind
theorem aT {ws : List Int} {E : Arr 5 Int} (p1 : Int) (p2 : List Int) (h0 : 0 ≤ p1) (h1 : p1 + p2.length ≤ ws.length) (h2 : ws.length ≤ 262144) : Dr ⟨E, ws⟩ p1 p2 = some ⟨E, A6 ws p1.toNat p2⟩ := by
  unfold Dr
  have hm : mks 4 (ws.length : Int) (ws.length : Int) (0 : Int) = some (List.replicate ws.length 0) := by
    unfold mks
    rw [if_pos ⟨by omega, by omega, by have := Zd; omega, by omega⟩]
    simp
  simp only [hm, Aa, Dl]
  have hc : cpy (List.replicate ws.length (0 : Int)) 0 ws = ws := by simp [cpy, A6]
  rw [hc, aS p2 p2.length p1 ws 0 (by omega) (by omega) h0 h1 (by omega), Aa]
  simp
/-! both machines -/
def toR (c : T_cpu_Cpu) : T_ref04_Cpu := ⟨c.R_, c.PC_, c.EPC_, c.Cause_, c.State_, c.Why_, c.Steps_, c.Taken_, c.Out_, c.setup_.Entry_, c.setup_.Vector_, c.setup_.Guard_, c.setup_.Limit_, c.input_⟩
def Vw (l : T_memory_Layout) : Arr 5 Int := Ij [l.Code_, l.Tables_, l.Data_, l.Heap_, l.Stack_]
def toM (m : T_memory_Mem) : T_ref03_Mem := ⟨Vw m.layout_, m.words_⟩
def u32 (x : Int) : Prop := 0 ≤ x ∧ x < 4294967296
structure Inv (c : T_cpu_Cpu) (m : T_memory_Mem) : Prop where
  regs : ∀ q, q < 16 → u32 (c.R_.g q)
  pc : u32 c.PC_
  epc : u32 c.EPC_
  ca : u32 c.Cause_
  tk : 0 ≤ c.Taken_ ∧ c.Taken_ ≤ c.input_.length
  il : c.input_.length ≤ 100
  st : u32 c.setup_.Vector_ ∧ u32 c.setup_.Guard_ ∧ u32 c.setup_.Limit_
  ws : ∀ x, x ∈ m.words_ → u32 x
  wl : (m.words_.length : Int) * 4 = m.layout_.Stack_
  sk : m.layout_.Stack_ ≤ 4096
structure At (H : Ah) (i k : Nat) (c : T_cpu_Cpu) (m : T_memory_Mem) : Prop where
  c : Bf H i 0 = some c
  m : Cu H k 0 = some m
  ne : i ≠ k
def Fr (H H' : Ah) (i k : Nat) : Prop := ∀ j, j ≠ i → j ≠ k → ∀ o n, Ct H' j o n = Ct H j o n
theorem Fr.refl (H : Ah) (i k : Nat) : Fr H H i k := fun _ _ _ _ _ => rfl
theorem Fr.trans {H H1 H2 : Ah} {i k : Nat} (a : Fr H H1 i k) (b : Fr H1 H2 i k) : Fr H H2 i k := fun j h1 h2 o n => (b j h1 h2 o n).trans (a j h1 h2 o n)
theorem pX (x y : T_api_Event) (h : Ad x = Ad y) : x = y := by
  cases x; cases y; simpa [Ad] using h
theorem Qu (x y : T_cpu_Cpu) (h : Bz x = Bz y) : x = y := by
  obtain ⟨R, a, b, d, e, f, g, k, l, ⟨s1, s2, s3, s4⟩, n⟩ := x
  obtain ⟨R', a', b', d', e', f', g', k', l', ⟨s1', s2', s3', s4'⟩, n'⟩ := y
  simp only [Bz, List.cons.injEq, Prod.mk.injEq, AV.sl.injEq, AV.int.injEq, true_and, and_true] at h
  obtain ⟨h0, h1, h2, h3, h4, h5, h6, h7, h8, h9, h10, h11, h12, h13, h14, h15, rfl, rfl, rfl, rfl, rfl, rfl, rfl, ho, rfl, rfl, rfl, rfl, hi⟩ := h
  have hR : R = R' := kG fun q hq => by
    match q, hq with
    | 0, _ => exact h0
    | 1, _ => exact h1
    | 2, _ => exact h2
    | 3, _ => exact h3
    | 4, _ => exact h4
    | 5, _ => exact h5
    | 6, _ => exact h6
    | 7, _ => exact h7
    | 8, _ => exact h8
    | 9, _ => exact h9
    | 10, _ => exact h10
    | 11, _ => exact h11
    | 12, _ => exact h12
    | 13, _ => exact h13
    | 14, _ => exact h14
    | 15, _ => exact h15
    | n + 16, h => exact absurd h (by omega)
  rw [hR, Ww pX _ _ ho, Ww mN _ _ hi]
theorem cL (x : T_cpu_Cpu) : (Bz x).length = 29 := rfl
section
variable {H : Ah} {i k : Nat} {c : T_cpu_Cpu} {m : T_memory_Mem}
theorem At.setC (A : At H i k c m) (c' : T_cpu_Cpu) : At (Bl H i 0 c') i k c' m ∧ Fr H (Bl H i 0 c') i k :=
  ⟨⟨cC Qu cL A.c _, aQ M3 A.ne A.m, A.ne⟩, fun j h1 h2 o n => Ts (Ne.symm h1)⟩
theorem At.setM (A : At H i k c m) (m' : T_memory_Mem) : At (Dm H k 0 m') i k c m' ∧ Fr H (Dm H k 0 m') i k :=
  ⟨⟨aQ Qu (Ne.symm A.ne) A.c, cC M3 Wy A.m _, A.ne⟩, fun j h1 h2 o n => Ts (Ne.symm h2)⟩
def To (f : Ah → Option Ah) (i k : Nat) (c : T_cpu_Cpu) (m : T_memory_Mem) (c' : T_cpu_Cpu) (m' : T_memory_Mem) : Prop := ∀ H, At H i k c m → ∃ H', f H = some H' ∧ At H' i k c' m' ∧ Fr H H' i k
def Td (c : T_cpu_Cpu) : T_cpu_Cpu := ⟨c.R_, IntKind.wrap .u32 (c.PC_ + 4), c.EPC_, c.Cause_, c.State_, c.Why_, c.Steps_, c.Taken_, c.Out_, c.setup_, c.input_⟩
def Tx (c : T_cpu_Cpu) (a : Int) (w : Int) : T_cpu_Cpu := ⟨c.R_.put a.toNat w, IntKind.wrap .u32 (c.PC_ + 4), c.EPC_, c.Cause_, c.State_, c.Why_, c.Steps_, c.Taken_, c.Out_, c.setup_, c.input_⟩
def N1 (c : T_cpu_Cpu) (e : Int) : T_cpu_Cpu := ⟨c.R_, c.PC_, c.EPC_, c.Cause_, 2, e, c.Steps_, c.Taken_, c.Out_, c.setup_, c.input_⟩
def Lq (c : T_cpu_Cpu) (w : Int) : T_cpu_Cpu := if c.PC_ < c.setup_.Guard_ then N1 c 111 else ⟨c.R_, c.setup_.Vector_, c.PC_, w, c.State_, c.Why_, c.Steps_, c.Taken_, c.Out_, c.setup_, c.input_⟩
def Te (c : T_cpu_Cpu) (n : Int) : T_cpu_Cpu := ⟨c.R_, IntKind.wrap .u32 (c.PC_ + IntKind.wrap .u32 (4 + IntKind.wrap .u32 (IntKind.wrap .i64 (4 * n)))), c.EPC_, c.Cause_, c.State_, c.Why_, c.Steps_, c.Taken_, c.Out_, c.setup_, c.input_⟩
theorem Dd (x : Int) : u32 (IntKind.wrap .u32 x) := by unfold u32; rw [Jt]; omega
theorem Inv.next (I : Inv c m) : Inv (Td c) m := ⟨I.regs, Dd _, I.epc, I.ca, I.tk, I.il, I.st, I.ws, I.wl, I.sk⟩
theorem Uv {R : Arr 16 Int} {a : Nat} {w : Int} (h : ∀ q, q < 16 → u32 (R.g q)) (ha : a < 16) (hw : u32 w) : ∀ q, q < 16 → u32 ((R.put a w).g q) := fun q hq => by
  rw [qX ha]; split
  · exact hw
  · exact h q hq
theorem Inv.set (I : Inv c m) {a w : Int} (ha : 0 ≤ a ∧ a < 16) (hw : u32 w) : Inv (Tx c a w) m := ⟨Uv I.regs (by omega) hw, Dd _, I.epc, I.ca, I.tk, I.il, I.st, I.ws, I.wl, I.sk⟩
theorem Inv.fault (I : Inv c m) (e : Int) : Inv (N1 c e) m := ⟨I.regs, I.pc, I.epc, I.ca, I.tk, I.il, I.st, I.ws, I.wl, I.sk⟩
theorem Inv.trap (I : Inv c m) {w : Int} (hw : u32 w) : Inv (Lq c w) m := by
  unfold Lq; split
  · exact I.fault _
  · exact ⟨I.regs, I.st.1, I.pc, hw, I.tk, I.il, I.st, I.ws, I.wl, I.sk⟩
theorem Inv.jump (I : Inv c m) (n : Int) : Inv (Te c n) m := ⟨I.regs, Dd _, I.epc, I.ca, I.tk, I.il, I.st, I.ws, I.wl, I.sk⟩
theorem Rr (e : Int) : To (fun H => Bq H (.at i 0) e) i k c m (N1 c e) m := fun H A => by
  refine ⟨_, ?_, A.setC (N1 c e)⟩
  show Bq H (.at i 0) e = _
  unfold Bq
  rw [Bg, A.c, Aa, Dl]; rfl
theorem Wz (w : Int) : To (fun H => C3 H (.at i 0) w) i k c m (Lq c w) m := fun H A => by
  show ∃ H', C3 H (.at i 0) w = _ ∧ _
  unfold C3 Lq
  rw [Bg, A.c, Aa]
  by_cases g : c.PC_ < c.setup_.Guard_
  · obtain ⟨H1, e1, A1⟩ := Rr 111 H A
    have e1 : Bq H (.at i 0) 111 = some H1 := e1
    rw [if_pos (by simpa using g), if_pos g, e1]
    exact ⟨H1, rfl, A1⟩
  · rw [if_neg (by simpa using g), if_neg g, Dl]
    exact ⟨_, rfl, A.setC _⟩
theorem cM {a : Int} (ha : 0 ≤ a ∧ a < 16) (w : Int) : To (fun H => Bh H (.at i 0) a w) i k c m (Tx c a w) m := fun H A => by
  obtain ⟨A1, f1⟩ := A.setC ⟨c.R_.put a.toNat w, c.PC_, c.EPC_, c.Cause_, c.State_, c.Why_, c.Steps_, c.Taken_, c.Out_, c.setup_, c.input_⟩
  obtain ⟨A2, f2⟩ := A1.setC (Tx c a w)
  refine ⟨_, ?_, A2, f1.trans f2⟩
  show Bh H (.at i 0) a w = _
  unfold Bh
  rw [Bg, A.c, Aa, mS ha.1 (by omega), Aa, gH ha.1 (by omega), Aa, Dl, Dl]; rfl
theorem Xa (n : Int) : To (fun H => Gm H (.at i 0) n) i k c m (Te c n) m := fun H A => by
  refine ⟨_, ?_, A.setC (Te c n)⟩
  show Gm H (.at i 0) n = _
  unfold Gm
  rw [Bg, A.c, Aa, Dl]; rfl
theorem mT (b : Bool) (w : Int) : To (fun H => Fe H (.at i 0) b w) i k c m (if b = true then Td c else Lq c w) m := fun H A => by
  show ∃ H', Fe H (.at i 0) b w = _ ∧ _
  unfold Fe
  cases b with
  | true =>
    rw [if_pos rfl, if_pos rfl, Bg, A.c, Aa, Dl]
    exact ⟨_, rfl, A.setC _⟩
  | false =>
    obtain ⟨H1, e1, A1⟩ := Wz w H A
    have e1 : C3 H (.at i 0) w = some H1 := e1
    rw [if_neg (by simp), if_neg (by simp), e1]
    exact ⟨H1, rfl, A1⟩
/-! the document's, the same -/
theorem oJ (e : Int) : Gp (toR c) e = some (toR (N1 c e)) := rfl
theorem Ty (w : Int) : Fx (toR c) w = some (toR (Lq c w)) := by
  unfold Fx Lq
  by_cases g : c.PC_ < c.setup_.Guard_
  · rw [if_pos (show decide ((toR c).PC_ < (toR c).Guard_) = true by show decide (c.PC_ < c.setup_.Guard_) = true; simpa using g), if_pos g, oJ, Aa]
  · rw [if_neg (show ¬ decide ((toR c).PC_ < (toR c).Guard_) = true by show ¬ decide (c.PC_ < c.setup_.Guard_) = true; simpa using g), if_neg g]; rfl
/-! memory -/
theorem Tz {p : Int} (A : At H i k c m) (hp : u32 p) (hk : (m.words_.length : Int) * 4 = m.layout_.Stack_) : D0 H (.at k 0) p = some (if p % 4 ≠ 0 then (0, 30) else if p ≥ m.layout_.Stack_ then (0, 31) else (p / 4, 0)) := by
  unfold u32 at hp
  unfold D0
  rw [Ey hp.1, Il hp.1, Cj (p / 4) (by omega) (by omega), Av (p / 4) (by omega) (by omega)]
  by_cases c1 : p % 4 = 0
  · rw [if_neg (by simpa using c1), if_neg (by simpa using c1), Bg, A.m, Aa]
    by_cases c2 : p ≥ m.layout_.Stack_
    · rw [if_pos (by simpa using c2), if_pos c2]
    · rw [if_neg (by simpa using c2), if_neg c2]
  · rw [if_pos (by simpa using c1), if_pos (by simpa using c1)]
def ldV (m : T_memory_Mem) (p : Int) : Int × Int := if p % 4 ≠ 0 then (0, 30) else if p ≥ m.layout_.Stack_ then (0, 31) else (m.words_[(p / 4).toNat]?.getD 0, 0)
theorem Uw {p : Int} (hp : u32 p) (hk : (m.words_.length : Int) * 4 = m.layout_.Stack_) (h : ¬ p ≥ m.layout_.Stack_) : gi m.words_ (p / 4) = some (m.words_[(p / 4).toNat]?.getD 0) := by
  unfold u32 at hp
  rw [Qp (by omega) (by omega), List.getElem?_eq_getElem (by omega)]; rfl
theorem aU {p : Int} (h : p % 4 ≠ 0) : ldV m p = (0, 30) := by unfold ldV; rw [if_pos h]
theorem aV {p : Int} (h : p % 4 = 0) (h2 : p ≥ m.layout_.Stack_) : ldV m p = (0, 31) := by unfold ldV; rw [if_neg (by simpa using h), if_pos h2]
theorem aW {p : Int} (h : p % 4 = 0) (h2 : ¬ p ≥ m.layout_.Stack_) : ldV m p = (m.words_[(p / 4).toNat]?.getD 0, 0) := by unfold ldV; rw [if_neg (by simpa using h), if_neg h2]
theorem aX {p : Int} (A : At H i k c m) (hp : u32 p) (hk : (m.words_.length : Int) * 4 = m.layout_.Stack_) : Ej H (.at k 0) p = some (ldV m p) := by
  unfold Ej
  rw [Tz A hp hk]
  by_cases c1 : p % 4 = 0
  · by_cases c2 : p ≥ m.layout_.Stack_
    · rw [aV c1 c2, if_neg (by simpa using c1), if_pos c2, Ay, if_pos (by simp)]
    · rw [aW c1 c2, if_neg (by simpa using c1), if_neg c2, Ay, if_neg (by simp), Bg, A.m, Aa, Uw hp hk c2, Aa]
  · rw [aU c1, if_pos c1, Ay, if_pos (by simp)]
theorem gI {p : Int} (hp : u32 p) (hk : (m.words_.length : Int) * 4 = m.layout_.Stack_) : Kf (toM m) p = some (ldV m p) := by
  have hp' := hp
  unfold u32 at hp
  have e : (toM m).W_ = m.words_ := rfl
  unfold Kf
  rw [Ey hp.1, Il hp.1, Cj (p / 4) (by omega) (by omega), Av (p / 4) (by omega) (by omega), e]
  by_cases c1 : p % 4 = 0
  · by_cases c2 : p ≥ m.layout_.Stack_
    · rw [aV c1 c2, if_neg (by simp [c1]), if_pos (by simp; omega)]
    · rw [aW c1 c2, if_neg (by simp [c1]), if_neg (by simp; omega), Uw hp' hk c2, Aa]
  · rw [aU c1, if_pos (by simpa using c1)]
theorem iQ {p : Int} (I : Inv c m) : u32 (ldV m p).1 := by
  unfold ldV
  split
  · exact ⟨by decide, by decide⟩
  · split
    · exact ⟨by decide, by decide⟩
    · show u32 (m.words_[(p / 4).toNat]?.getD 0)
      cases h : m.words_[(p / 4).toNat]? with
      | none => exact ⟨by decide, by decide⟩
      | some x => exact I.ws x (List.mem_of_getElem? h)
end
end Go.Proofs.Abs
namespace Go.Proofs.Abs
open Go
set_option linter.unusedVariables false
set_option linter.unusedSimpArgs false
def Sr (x : Int) : Prop := -2147483648 ≤ x ∧ x ≤ 2147483647
theorem Mh (x : Int) : Sr (IntKind.wrap .i32 x) := by unfold Sr; rw [Bn]; omega
theorem Va (x y : Int) : (0 ≤ x → 0 ≤ Int.tmod x y) ∧ (x ≤ 0 → Int.tmod x y ≤ 0) := by
  refine ⟨fun h => Int.tmod_nonneg _ h, fun h => ?_⟩
  have := Int.tmod_nonneg y (show 0 ≤ -x by omega)
  rw [Int.neg_tmod] at this; omega
theorem sgn (a b : Prop) [Decidable a] [Decidable b] : ((decide a != decide b) = true) ↔ (a ↔ ¬ b) := by by_cases ha : a <;> by_cases hb : b <;> simp [ha, hb]
theorem cN (x y : Int) : (Int.tmod x y).natAbs ≤ x.natAbs := by rw [Int.natAbs_tmod]; exact Nat.mod_le _ _
theorem Ze {x y : Int} (hx : Sr x) (hy : Sr y) : ∃ q ok, Ng x y = some (q, ok) ∧ Ib x y = some (q, ok) ∧ Sr q ∧ (ok = true → y ≠ 0 ∧ (y = -1 → q = IntKind.wrap .i32 (-x)) ∧ (y ≠ -1 → q = (if x - y * Int.tdiv x y ≠ 0 ∧ (x < 0 ↔ ¬ y < 0) then Int.tdiv x y - 1 else Int.tdiv x y))) := by
  unfold Sr at hx hy
  by_cases y0 : y = 0
  · subst y0
    exact ⟨0, false, by unfold Ng; rfl, by unfold Ib; rfl, ⟨by decide, by decide⟩, fun h => by cases h⟩
  have ab := Int.natAbs_tdiv_le_natAbs x y
  have qb : -2147483648 ≤ Int.tdiv x y ∧ Int.tdiv x y ≤ 2147483648 := by omega
  have rd : Int.tmod x y = x - y * Int.tdiv x y := Int.tmod_def x y
  by_cases y1 : y = -1
  · subst y1
    have t : Int.tdiv x (-1) = -x := by rw [Int.tdiv_neg, Int.tdiv_one]
    refine ⟨IntKind.wrap .i32 (-x), true, ?_, ?_, Mh _, fun _ => ⟨by decide, fun _ => rfl, fun h => absurd rfl h⟩⟩
    · unfold Ng
      rw [if_neg (by decide), if_pos (by decide)]
      congr 3; omega
    · unfold Ib Fc
      have qi : Zo .i64 (IntKind.wrap .i64 x) (IntKind.wrap .i64 (-1)) = some (-x) := by
        rw [Av x (by omega) (by omega), Av (-1) (by decide) (by decide)]
        unfold Zo
        rw [if_neg (by decide), t, Av _ (by omega) (by omega)]
      rw [if_neg (by decide), qi, Aa, Av (-1) (by decide) (by decide), Av (-x * -1) (by omega) (by omega), Av x (by omega) (by omega), if_neg (by simp), Kn (by omega) (by omega), Aa]
  · have qb : Sr (Int.tdiv x y) := by
      unfold Sr
      by_cases xm : x = -2147483648
      · subst xm
        have : (Int.tdiv (-2147483648) y).natAbs = 2147483648 / y.natAbs := by rw [Int.natAbs_tdiv]; rfl
        by_cases yy : y = 1
        · subst yy; decide
        · have : (Int.tdiv (-2147483648) y).natAbs ≤ 2147483648 / 2 := by rw [this]; exact Nat.div_le_div_left (by omega) (by decide)
          omega
      · omega
    unfold Sr at qb
    have pq : y * Int.tdiv x y = x - Int.tmod x y := by omega
    have rb : -2147483648 ≤ Int.tmod x y ∧ Int.tmod x y ≤ 2147483648 := by
      obtain ⟨s1, s2⟩ := Va x y
      have := cN x y
      omega
    obtain ⟨s1, s2⟩ := Va x y
    obtain ⟨q, hq⟩ : ∃ q, q = Int.tdiv x y := ⟨_, rfl⟩
    obtain ⟨r, hr⟩ : ∃ r, r = Int.tmod x y := ⟨_, rfl⟩
    rw [← hq] at qb pq rd
    rw [← hr] at rb pq rd s1 s2
    have qi : Zo .i64 (IntKind.wrap .i64 x) (IntKind.wrap .i64 y) = some q := by
      rw [Av x (by omega) (by omega), Av y (by omega) (by omega)]
      unfold Zo
      rw [if_neg y0, ← hq, Av _ (by omega) (by omega)]
    have qj : Zo .i32 x y = some q := by
      unfold Zo
      rw [if_neg y0, ← hq, Mg _ (by omega) (by omega)]
    have rj : Rm .i32 x y = some r := by
      unfold Rm
      rw [if_neg y0, ← hr]
    have wq : IntKind.wrap .i64 (q * y) = x - r := by rw [Int.mul_comm, pq, Av _ (by omega) (by omega)]
    rw [← hq, ← rd]
    by_cases cd : r ≠ 0 ∧ (x < 0 ↔ ¬ y < 0)
    · have qm : Sr (q - 1) := by
        unfold Sr
        refine ⟨?_, by omega⟩
        by_cases qq : q = -2147483648
        · exfalso
          have e : y * -2147483648 = x - r := by rw [← qq]; exact pq
          obtain ⟨c1, c2⟩ := cd
          by_cases xs : x < 0
          · have := c2.1 xs
            have := s2 (by omega)
            omega
          · have : y < 0 := by
              by_cases k : y < 0
              · exact k
              · exact absurd (c2.2 k) xs
            have := s1 (by omega)
            omega
        · omega
      refine ⟨q - 1, true, ?_, ?_, qm, fun _ => ⟨y0, fun h => absurd h y1, fun _ => by rw [if_pos cd]⟩⟩
      · unfold Ng Kb
        rw [if_neg (by simpa using y0), if_neg (by simpa using y1), qj, Aa, rj, Aa, if_pos (by rw [Bool.and_eq_true, bne_iff_ne, sgn]; exact cd), Mg _ qm.1 qm.2]
      · unfold Ib Fc
        unfold Sr at qm
        rw [if_neg (by simpa using y0), qi, Aa, Av x (by omega) (by omega), Av y (by omega) (by omega), wq, if_pos (by rw [Bool.and_eq_true, bne_iff_ne, sgn]; exact ⟨by omega, cd.2⟩), Av (q - 1) (by omega) (by omega), Kn (by omega) (by omega), Aa, Mg _ qm.1 qm.2]
    · refine ⟨q, true, ?_, ?_, qb, fun _ => ⟨y0, fun h => absurd h y1, fun _ => by rw [if_neg cd]⟩⟩
      · unfold Ng Kb
        rw [if_neg (by simpa using y0), if_neg (by simpa using y1), qj, Aa, rj, Aa, if_neg (by rw [Bool.and_eq_true, bne_iff_ne, sgn]; exact cd)]
      · unfold Ib Fc
        rw [if_neg (by simpa using y0), qi, Aa, Av x (by omega) (by omega), Av y (by omega) (by omega), wq, if_neg (by rw [Bool.and_eq_true, bne_iff_ne, sgn]; exact fun h => cd ⟨by omega, h.2⟩), Kn (by omega) (by omega), Aa, Mg _ qb.1 qb.2]
theorem mU {x y : Int} (hx : Sr x) (hy : Sr y) : ∃ q ok, Nh x y = some (q, ok) ∧ My x y = some (q, ok) := by
  obtain ⟨q, ok, _, d2, qr, d3⟩ := Ze hx hy
  unfold Sr at hx hy qr
  by_cases y0 : y = 0
  · subst y0
    exact ⟨0, false, by unfold Nh; rfl, by unfold My Ib; rfl⟩
  cases ok with
  | false =>
    exfalso
    unfold Ib Fc at d2
    rw [if_neg (by simpa using y0)] at d2
    obtain ⟨v, _, d2⟩ := Ab d2
    split at d2 <;> (obtain ⟨u, _, d2⟩ := Ab d2; cases d2)
  | true =>
    obtain ⟨_, e1, e2⟩ := d3 rfl
    have rm : My x y = some (IntKind.wrap .i32 (x - q * y), true) := by
      have pb : -4611686018427387905 < q * y ∧ q * y < 4611686018427387905 := by
        have := Int.natAbs_mul q y
        have h1 : q.natAbs * y.natAbs ≤ 2147483648 * 2147483648 := Nat.mul_le_mul (by omega) (by omega)
        omega
      unfold My
      rw [d2, Ay, if_neg (by simp), Av q (by omega) (by omega), Av y (by omega) (by omega), Av x (by omega) (by omega), Av (q * y) (by omega) (by omega), Av _ (by omega) (by omega)]
      by_cases big : -4611686018427387904 < x - q * y ∧ x - q * y < 4611686018427387904
      · rw [Kn big.1 big.2, Aa]
      · exfalso
        by_cases y1 : y = -1
        · subst y1; omega
        · have rd := Int.tmod_def x y
          have rb := cN x y
          have e2 := e2 y1
          rw [Int.mul_comm] at big
          split at e2
          · rw [e2, Int.mul_sub] at big; omega
          · rw [e2] at big; omega
    rw [rm]
    by_cases y1 : y = -1
    · subst y1
      refine ⟨0, true, by unfold Nh; rw [if_neg (by decide), if_pos (by decide)], ?_⟩
      rw [e1 rfl]
      congr 2
      rw [Bn, Bn]; omega
    · have e2 := e2 y1
      have rd := Int.tmod_def x y
      obtain ⟨s1, s2⟩ := Va x y
      obtain ⟨r, hr⟩ : ∃ r, r = Int.tmod x y := ⟨_, rfl⟩
      have rj : Rm .i32 x y = some r := by
        unfold Rm
        rw [if_neg y0, ← hr]
      rw [← rd, ← hr] at e2
      rw [← hr] at rd s1 s2
      by_cases cd : r ≠ 0 ∧ (x < 0 ↔ ¬ y < 0)
      · rw [if_pos cd] at e2
        have : x - q * y = r + y := by rw [e2, Int.mul_comm, Int.mul_sub]; omega
        rw [this]
        refine ⟨_, true, ?_, rfl⟩
        unfold Nh Kc
        rw [if_neg (by simpa using y0), if_neg (by simpa using y1), rj, Aa, if_pos]
        rw [Bool.and_eq_true, bne_iff_ne, sgn]
        refine ⟨cd.1, fun h => cd.2.1 (by omega), fun h => ?_⟩
        have := cd.2.2 h
        omega
      · rw [if_neg cd] at e2
        have : x - q * y = r := by rw [e2, Int.mul_comm]; omega
        have rb := cN x y
        rw [← hr] at rb
        rw [this, Mg r (by omega) (by omega)]
        refine ⟨_, true, ?_, rfl⟩
        unfold Nh Kc
        rw [if_neg (by simpa using y0), if_neg (by simpa using y1), rj, Aa, if_neg]
        rw [Bool.and_eq_true, bne_iff_ne, sgn]
        refine fun h => cd ⟨h.1, fun hx0 => h.2.1 ?_, fun hy0 => ?_⟩
        · have := s2 (by omega); omega
        · have := h.2.2 hy0
          by_cases k : 0 ≤ x
          · have := s1 k; omega
          · omega
theorem Zf (x y : Int) : IntKind.wrap .u32 (IntKind.wrap .i32 (IntKind.wrap .i32 x * IntKind.wrap .i32 y)) = IntKind.wrap .u32 (x * y) := by
  obtain ⟨a, ha⟩ : ∃ a, IntKind.wrap .i32 x = x + 4294967296 * a := ⟨-((x + 2147483648) / 4294967296), by rw [Bn]; omega⟩
  obtain ⟨b, hb⟩ : ∃ b, IntKind.wrap .i32 y = y + 4294967296 * b := ⟨-((y + 2147483648) / 4294967296), by rw [Bn]; omega⟩
  have e : (x + 4294967296 * a) * (y + 4294967296 * b) = x * y + 4294967296 * (x * b + a * y + 4294967296 * (a * b)) := by grind
  rw [ha, hb, e, Jt, Jt, Bn]
  omega
end Go.Proofs.Abs
namespace Go.Proofs.Abs
open Go
set_option linter.unusedVariables false
set_option linter.unusedSimpArgs false
def Rg (a : Int) : Prop := 0 ≤ a ∧ a < 16
def Res (f : Nat → Nat → Ah → Option Ah) (x : T_instr_Instr) (c : T_cpu_Cpu) (m : T_memory_Mem) : Prop :=
  ∃ c' m', Ck (toR c) (toM m) (toI x) = some (toR c', toM m') ∧ Inv c' m' ∧ m'.layout_ = m.layout_ ∧ c'.Out_.length ≤ c.Out_.length + 1 ∧ ∀ i k, To (f i k) i k c m c' m'
section
variable {c : T_cpu_Cpu} {m : T_memory_Mem} {a b d n : Int}
theorem Sl (p : Prop) [Decidable p] : Ni (decide p) = some (if p then 1 else 0) ∧ Nm (decide p) = some (if p then 1 else 0) := by
  by_cases h : p <;> simp [h, Ni, Nm]
theorem cO (p : Prop) [Decidable p] : u32 (if p then 1 else 0) := by split <;> exact ⟨by decide, by decide⟩
theorem Rs (o : BinOp) (x y : Int) (h : ∃ z, A9 o .u32 x y = IntKind.u32.wrap z) : u32 (A9 o .u32 x y) := by
  obtain ⟨z, e⟩ := h; rw [e]; exact Dd z
theorem Db {f : Nat → Nat → Ah → Option Ah} {x : T_instr_Instr} {c' : T_cpu_Cpu} (h1 : Ck (toR c) (toM m) (toI x) = some (toR c', toM m)) (h2 : Inv c' m) (h3 : c'.Out_ = c.Out_) (h4 : ∀ i k, To (f i k) i k c m c' m) : Res f x c m :=
  ⟨c', m, h1, h2, rfl, by rw [h3]; omega, h4⟩
theorem O3 (w : Int) : (Lq c w).Out_ = c.Out_ := by unfold Lq; split <;> rfl
theorem N8 {g : Ah → Option Ah} {i k : Nat} {w : Int} (ha : Rg a) (h : ∀ H, At H i k c m → g H = Bh H (.at i 0) a w) : To g i k c m (Tx c a w) m := fun H A => by
  obtain ⟨H1, e1, A1⟩ := cM ha w H A
  exact ⟨H1, (h H A).trans e1, A1⟩
theorem Ks {q : Option Ah} : Af q (fun H => some H) = q := by cases q <;> rfl
theorem gJ (I : Inv c m) {op : Int} (ho : 6 ≤ op ∧ op ≤ 17) (ha : Rg a) (hb : Rg b) (hd : Rg d) : ∃ v ok, Cg op (c.R_.g b.toNat) (c.R_.g d.toNat) = some (v, ok) ∧ u32 v ∧
    ∀ i k, To (fun H => Bc H (.at i 0) ⟨op, a, b, d, n⟩) i k c m (if ok = true then Tx c a v else Lq c 3) m := by
  obtain ⟨x, hx⟩ : ∃ x, x = c.R_.g b.toNat := ⟨_, rfl⟩
  obtain ⟨y, hy⟩ : ∃ y, y = c.R_.g d.toNat := ⟨_, rfl⟩
  have ux : u32 x := by rw [hx]; exact I.regs _ (by unfold Rg at hb; omega)
  have uy : u32 y := by rw [hy]; exact I.regs _ (by unfold Rg at hd; omega)
  rw [← hx, ← hy]
  have hd' : ∀ {H i k}, At H i k c m → ga c.R_ b = some x ∧ ga c.R_ d = some y := fun A => ⟨by rw [mS hb.1 (by unfold Rg at hb; omega), hx], by rw [mS hd.1 (by unfold Rg at hd; omega), hy]⟩
  have go : ∀ (v : Int), (∀ H i k, At H i k c m → Bc H (.at i 0) ⟨op, a, b, d, n⟩ = Bh H (.at i 0) a v) → ∀ i k, To (fun H => Bc H (.at i 0) ⟨op, a, b, d, n⟩) i k c m (if true = true then Tx c a v else Lq c 3) m := fun v h i k => by
    rw [if_pos rfl]; exact N8 ha fun H A => h H i k A
  have : op = 6 ∨ op = 7 ∨ op = 8 ∨ op = 9 ∨ op = 10 ∨ op = 11 ∨ op = 12 ∨ op = 13 ∨ op = 14 ∨ op = 15 ∨ op = 16 ∨ op = 17 := by omega
  rcases this with rfl | rfl | rfl | rfl | rfl | rfl | rfl | rfl | rfl | rfl | rfl | rfl
  · refine ⟨_, true, by unfold Cg; rw [if_pos (by rfl)], Dd _, go _ fun H i k A => ?_⟩
    obtain ⟨h1, h2⟩ := hd' A
    unfold Bc
    rw [Bg, A.c, Aa, h1, Aa, h2, Aa, if_pos (by rfl)]; exact Ks
  · refine ⟨_, true, by unfold Cg; rw [if_neg (by decide), if_pos (by rfl)], Dd _, go _ fun H i k A => ?_⟩
    obtain ⟨h1, h2⟩ := hd' A
    unfold Bc
    rw [Bg, A.c, Aa, h1, Aa, h2, Aa, if_neg (by simp), if_pos (by rfl)]; exact Ks
  · refine ⟨IntKind.wrap .u32 (x * y), true, ?_, Dd _, go _ fun H i k A => ?_⟩
    · have i1 := Mh x
      have i2 := Mh y
      unfold Sr at i1 i2
      have pb : -4611686018427387905 < IntKind.wrap .i32 x * IntKind.wrap .i32 y ∧ IntKind.wrap .i32 x * IntKind.wrap .i32 y < 4611686018427387905 := by
        have := Int.natAbs_mul (IntKind.wrap .i32 x) (IntKind.wrap .i32 y)
        have h1 : (IntKind.wrap .i32 x).natAbs * (IntKind.wrap .i32 y).natAbs ≤ 2147483648 * 2147483648 := Nat.mul_le_mul (by omega) (by omega)
        omega
      unfold Cg Pb
      rw [if_neg (by decide), if_neg (by decide), if_pos (by rfl), Av (IntKind.wrap .i32 x) (by omega) (by omega), Av (IntKind.wrap .i32 y) (by omega) (by omega), Av _ (by omega) (by omega)]
      by_cases big : IntKind.wrap .i32 x * IntKind.wrap .i32 y = 4611686018427387904
      · have z : Ff 4611686018427387904 = some 0 := by kernel_rfl
        have z2 : IntKind.wrap .u32 (IntKind.wrap .i32 4611686018427387904) = 0 := by kernel_rfl
        rw [← Zf, big, z, Aa, Aa, z2]; rfl
      · by_cases sm : -4611686018427387904 < IntKind.wrap .i32 x * IntKind.wrap .i32 y
        · rw [Kn sm (by omega), Aa, Aa, Zf]
        · have e : IntKind.wrap .i32 x * IntKind.wrap .i32 y = -4611686018427387904 := by omega
          have z : Ff (-4611686018427387904) = some 0 := by kernel_rfl
          have z2 : IntKind.wrap .u32 (IntKind.wrap .i32 (-4611686018427387904)) = 0 := by kernel_rfl
          rw [← Zf, e, z, Aa, Aa, z2]; rfl
    · obtain ⟨h1, h2⟩ := hd' A
      unfold Bc
      rw [Bg, A.c, Aa, h1, Aa, h2, Aa, if_neg (by simp), if_neg (by simp), if_pos (by rfl)]; exact Ks
  · obtain ⟨q, ok, d1, d2, _, _⟩ := Ze (Mh x) (Mh y)
    refine ⟨IntKind.wrap .u32 q, ok, by unfold Cg; rw [if_neg (by decide), if_neg (by decide), if_neg (by decide), if_pos (by rfl), d2, Ay], Dd _, fun i k H A => ?_⟩
    obtain ⟨h1, h2⟩ := hd' A
    show ∃ H', Bc H (.at i 0) ⟨9, a, b, d, n⟩ = _ ∧ _
    unfold Bc Bm Kd Dp
    rw [Bg, A.c, Aa, h1, Aa, h2, Aa, if_neg (by simp), if_neg (by simp), if_neg (by simp), if_pos (by rfl), if_pos (by rfl), d1, Ay, if_neg (by simp)]
    cases ok with
    | true =>
      obtain ⟨H1, e1, A1⟩ := cM ha (IntKind.wrap .u32 q) H A
      exact ⟨H1, by rw [if_neg (by simp), Ks]; show Af (Bh H (.at i 0) a _) _ = _; exact (congrArg (fun z => Af z _) e1), A1⟩
    | false =>
      obtain ⟨H1, e1, A1⟩ := Wz 3 H A
      exact ⟨H1, by rw [if_pos (by rfl), Ks]; exact (congrArg (fun z => Af z _) e1), A1⟩
  · obtain ⟨q0, ok0, d0, _⟩ := Ze (Mh x) (Mh y)
    obtain ⟨q, ok, d1, d2⟩ := mU (Mh x) (Mh y)
    refine ⟨IntKind.wrap .u32 q, ok, by unfold Cg; rw [if_neg (by decide), if_neg (by decide), if_neg (by decide), if_neg (by decide), if_pos (by rfl), d2, Ay], Dd _, fun i k H A => ?_⟩
    obtain ⟨h1, h2⟩ := hd' A
    show ∃ H', Bc H (.at i 0) ⟨10, a, b, d, n⟩ = _ ∧ _
    unfold Bc Bm Kd Dp
    rw [Bg, A.c, Aa, h1, Aa, h2, Aa, if_neg (by simp), if_neg (by simp), if_neg (by simp), if_neg (by simp), if_pos (by rfl), d0, Ay, if_pos (by rfl), d1, Ay]
    cases ok with
    | true =>
      obtain ⟨H1, e1, A1⟩ := cM ha (IntKind.wrap .u32 q) H A
      exact ⟨H1, by rw [if_neg (by simp), Ks]; exact (congrArg (fun z => Af z _) e1), A1⟩
    | false =>
      obtain ⟨H1, e1, A1⟩ := Wz 3 H A
      exact ⟨H1, by rw [if_pos (by rfl), Ks]; exact (congrArg (fun z => Af z _) e1), A1⟩
  · refine ⟨_, true, by unfold Cg; rw [if_neg (by decide), if_neg (by decide), if_neg (by decide), if_neg (by decide), if_neg (by decide), if_pos (by rfl)], Rs _ _ _ ⟨_, rfl⟩, go _ fun H i k A => ?_⟩
    obtain ⟨h1, h2⟩ := hd' A
    unfold Bc Bm
    rw [Bg, A.c, Aa, h1, Aa, h2, Aa, if_neg (by simp), if_neg (by simp), if_neg (by simp), if_neg (by simp), if_neg (by simp), if_pos (by rfl)]; exact Ks
  · refine ⟨_, true, by unfold Cg; rw [if_neg (by decide), if_neg (by decide), if_neg (by decide), if_neg (by decide), if_neg (by decide), if_neg (by decide), if_pos (by rfl)], Rs _ _ _ ⟨_, rfl⟩, go _ fun H i k A => ?_⟩
    obtain ⟨h1, h2⟩ := hd' A
    unfold Bc Bm
    rw [Bg, A.c, Aa, h1, Aa, h2, Aa, if_neg (by simp), if_neg (by simp), if_neg (by simp), if_neg (by simp), if_neg (by simp), if_neg (by simp), if_pos (by rfl)]; exact Ks
  · refine ⟨_, true, by unfold Cg; rw [if_neg (by decide), if_neg (by decide), if_neg (by decide), if_neg (by decide), if_neg (by decide), if_neg (by decide), if_neg (by decide), if_pos (by rfl)], Rs _ _ _ ⟨_, rfl⟩, go _ fun H i k A => ?_⟩
    obtain ⟨h1, h2⟩ := hd' A
    unfold Bc Bm
    rw [Bg, A.c, Aa, h1, Aa, h2, Aa, if_neg (by simp), if_neg (by simp), if_neg (by simp), if_neg (by simp), if_neg (by simp), if_neg (by simp), if_neg (by simp), if_pos (by rfl)]; exact Ks
  · obtain ⟨f1, f2⟩ := Sl (IntKind.wrap .i32 x < IntKind.wrap .i32 y)
    refine ⟨_, true, by unfold Cg; rw [if_neg (by decide), if_neg (by decide), if_neg (by decide), if_neg (by decide), if_neg (by decide), if_neg (by decide), if_neg (by decide), if_neg (by decide), if_pos (by rfl), f2, Aa], cO _, go _ fun H i k A => ?_⟩
    obtain ⟨h1, h2⟩ := hd' A
    unfold Bc Bm
    rw [Bg, A.c, Aa, h1, Aa, h2, Aa, if_neg (by simp), if_neg (by simp), if_neg (by simp), if_neg (by simp), if_neg (by simp), if_neg (by simp), if_neg (by simp), if_neg (by simp), if_pos (by rfl), f1, Aa]; exact Ks
  · obtain ⟨f1, f2⟩ := Sl (IntKind.wrap .i32 x ≤ IntKind.wrap .i32 y)
    refine ⟨_, true, by unfold Cg; rw [if_neg (by decide), if_neg (by decide), if_neg (by decide), if_neg (by decide), if_neg (by decide), if_neg (by decide), if_neg (by decide), if_neg (by decide), if_neg (by decide), if_pos (by rfl), f2, Aa], cO _, go _ fun H i k A => ?_⟩
    obtain ⟨h1, h2⟩ := hd' A
    unfold Bc Bm
    rw [Bg, A.c, Aa, h1, Aa, h2, Aa, if_neg (by simp), if_neg (by simp), if_neg (by simp), if_neg (by simp), if_neg (by simp), if_neg (by simp), if_neg (by simp), if_neg (by simp), if_neg (by simp), if_pos (by rfl), f1, Aa]; exact Ks
  · have eq : (IntKind.wrap .i32 x == IntKind.wrap .i32 y) = decide (x = y) ∧ (x == y) = decide (x = y) := by
      unfold u32 at ux uy
      constructor
      · by_cases h : x = y
        · subst h; simp
        · have : IntKind.wrap .i32 x ≠ IntKind.wrap .i32 y := by rw [Bn, Bn]; omega
          simp [h, this]
      · by_cases h : x = y <;> simp [h]
    obtain ⟨f1, f2⟩ := Sl (x = y)
    refine ⟨_, true, by unfold Cg; rw [if_neg (by decide), if_neg (by decide), if_neg (by decide), if_neg (by decide), if_neg (by decide), if_neg (by decide), if_neg (by decide), if_neg (by decide), if_neg (by decide), if_neg (by decide), if_pos (by rfl), eq.2, f2, Aa], cO _, go _ fun H i k A => ?_⟩
    obtain ⟨h1, h2⟩ := hd' A
    unfold Bc Bm
    rw [Bg, A.c, Aa, h1, Aa, h2, Aa, if_neg (by simp), if_neg (by simp), if_neg (by simp), if_neg (by simp), if_neg (by simp), if_neg (by simp), if_neg (by simp), if_neg (by simp), if_neg (by simp), if_neg (by simp), if_pos (by rfl), eq.1, f1, Aa]; exact Ks
  · have eq : (IntKind.wrap .i32 x != IntKind.wrap .i32 y) = decide (x ≠ y) ∧ (x != y) = decide (x ≠ y) := by
      unfold u32 at ux uy
      constructor
      · by_cases h : x = y
        · subst h; simp
        · have : IntKind.wrap .i32 x ≠ IntKind.wrap .i32 y := by rw [Bn, Bn]; omega
          simp [h, this]
      · by_cases h : x = y <;> simp [h]
    obtain ⟨f1, f2⟩ := Sl (x ≠ y)
    refine ⟨_, true, by unfold Cg; rw [if_neg (by decide), if_neg (by decide), if_neg (by decide), if_neg (by decide), if_neg (by decide), if_neg (by decide), if_neg (by decide), if_neg (by decide), if_neg (by decide), if_neg (by decide), if_neg (by decide), if_pos (by rfl), eq.2, f2, Aa], cO _, go _ fun H i k A => ?_⟩
    obtain ⟨h1, h2⟩ := hd' A
    unfold Bc Bm
    rw [Bg, A.c, Aa, h1, Aa, h2, Aa, if_neg (by simp), if_neg (by simp), if_neg (by simp), if_neg (by simp), if_neg (by simp), if_neg (by simp), if_neg (by simp), if_neg (by simp), if_neg (by simp), if_neg (by simp), if_neg (by simp), eq.1, f1, Aa]; exact Ks
theorem kH (I : Inv c m) {op : Int} (ho : 6 ≤ op ∧ op ≤ 17) (ha : Rg a) (hb : Rg b) (hd : Rg d) : Res (fun i k H => Bc H (.at i 0) ⟨op, a, b, d, n⟩) ⟨op, a, b, d, n⟩ c m := by
  obtain ⟨v, ok, r1, r2, r3⟩ := gJ (n := n) I ho ha hb hd
  have ga' : ∀ q, Rg q → ga c.R_ q = some (c.R_.g q.toNat) := fun q hq => mS hq.1 (by unfold Rg at hq; omega)
  have e : Ck (toR c) (toM m) ⟨op, a, b, d, n⟩ = some (toR (if ok = true then Tx c a v else Lq c 3), toM m) := by
    unfold Ck
    show Af (ga c.R_ a) _ = _
    rw [ga' a ha, Aa]
    show Af (ga c.R_ b) _ = _
    rw [ga' b hb, Aa, if_pos (by simp; omega)]
    show Af (ga c.R_ d) _ = _
    rw [ga' d hd, Aa]
    show Cc (Cg op _ _) _ = _
    rw [r1, Ay]
    cases ok with
    | true =>
      rw [if_neg (by simp), if_pos rfl]
      show Af (ga c.R_ a) _ = _
      rw [ga' a ha, Aa]
      show Af (sa c.R_ a v) _ = _
      rw [gH ha.1 (by unfold Rg at ha; omega), Aa]; rfl
    | false => rw [if_pos (by rfl), if_neg (by simp), Ty, Aa]
  refine Db e ?_ ?_ r3
  · split
    · exact I.set ha r2
    · exact I.trap ⟨by decide, by decide⟩
  · split
    · rfl
    · exact O3 3
end
end Go.Proofs.Abs
namespace Go.Proofs.Abs
open Go
set_option linter.unusedVariables false
set_option linter.unusedSimpArgs false
section
variable {c : T_cpu_Cpu} {m : T_memory_Mem} {a b d n : Int}
def stV (m : T_memory_Mem) (p w : Int) : T_memory_Mem × Int := if (ldV m p).2 ≠ 0 then (m, (ldV m p).2) else if p < m.layout_.Tables_ then (m, 32) else (⟨m.layout_, m.words_.set (p / 4).toNat w⟩, 0)
theorem eM {p : Int} (h : (ldV m p).2 = 0) : p % 4 = 0 ∧ ¬ p ≥ m.layout_.Stack_ := by
  by_cases c1 : p % 4 = 0
  · by_cases c2 : p ≥ m.layout_.Stack_
    · rw [aV c1 c2] at h; cases h
    · exact ⟨c1, c2⟩
  · rw [aU c1] at h; cases h
theorem eN {i k : Nat} {p w : Int} (hp : u32 p) (hk : (m.words_.length : Int) * 4 = m.layout_.Stack_) {H : Ah} (A : At H i k c m) : ∃ H', D1 H (.at k 0) p w = some (H', (stV m p w).2) ∧ At H' i k c (stV m p w).1 ∧ Fr H H' i k := by
  have hp' := hp
  unfold u32 at hp
  unfold D1 stV
  rw [Tz A hp' hk]
  by_cases c0 : (ldV m p).2 = 0
  · obtain ⟨c1, c2⟩ := eM c0
    rw [if_neg (by simpa using c1), if_neg c2, Ay, if_neg (by simp), Bg, A.m, Aa]
    simp only [if_neg (show ¬ (ldV m p).2 ≠ 0 by simpa using c0)]
    by_cases c3 : p < m.layout_.Tables_
    · rw [if_pos (by simpa using c3), if_pos c3]
      exact ⟨H, rfl, A, Fr.refl _ _ _⟩
    · rw [if_neg (by simpa using c3), if_neg c3, Uw hp' hk c2, Aa, iO (by omega) (by omega), Aa, Dl]
      exact ⟨_, rfl, A.setM _⟩
  · simp only [if_pos (show (ldV m p).2 ≠ 0 from c0)]
    by_cases c1 : p % 4 = 0
    · by_cases c2 : p ≥ m.layout_.Stack_
      · rw [if_neg (by simpa using c1), if_pos c2, Ay, if_pos (by simp), aV c1 c2]
        exact ⟨H, rfl, A, Fr.refl _ _ _⟩
      · rw [aW c1 c2] at c0; exact absurd rfl c0
    · rw [if_pos c1, Ay, if_pos (by simp), aU c1]
      exact ⟨H, rfl, A, Fr.refl _ _ _⟩
theorem oK {p w : Int} (hp : u32 p) (hk : (m.words_.length : Int) * 4 = m.layout_.Stack_) (hs : m.layout_.Stack_ ≤ 4096) : Lp (toM m) p w = some (toM (stV m p w).1, (stV m p w).2) := by
  have hp' := hp
  unfold u32 at hp
  unfold Lp stV
  rw [gI hp' hk]
  have e : ∀ q : Int × Int, Cc (some q) (fun r1 r2 => if (r2 != 0) = true then some (toM m, r2) else if decide (p < (toM m).Ends_.g 1) = true then some (toM m, 32) else Af (Dr (toM m) (IntKind.wrap .i64 (IntKind.wrap .u32 (Int.tdiv p 4))) [w]) fun r6 => some (r6, 0)) = if (q.2 != 0) = true then some (toM m, q.2) else if decide (p < (toM m).Ends_.g 1) = true then some (toM m, 32) else Af (Dr (toM m) (IntKind.wrap .i64 (IntKind.wrap .u32 (Int.tdiv p 4))) [w]) fun r6 => some (r6, 0) := fun q => rfl
  rw [e]
  have e1 : (toM m).Ends_.g 1 = m.layout_.Tables_ := rfl
  by_cases c0 : (ldV m p).2 = 0
  · obtain ⟨c1, c2⟩ := eM c0
    rw [if_neg (by simpa using c0), if_neg (show ¬ (ldV m p).2 ≠ 0 by simpa using c0), e1]
    by_cases c3 : p < m.layout_.Tables_
    · rw [if_pos (by simpa using c3), if_pos c3]
    · rw [if_neg (by simpa using c3), if_neg c3, Il hp.1, Cj (p / 4) (by omega) (by omega), Av (p / 4) (by omega) (by omega)]
      show Af (Dr ⟨Vw m.layout_, m.words_⟩ (p / 4) [w]) _ = _
      rw [aT (p / 4) [w] (by omega) (by simp; omega) (by omega), Aa]
      have : A6 m.words_ (p / 4).toNat [w] = m.words_.set (p / 4).toNat w := by
        apply List.ext_getElem?
        intro q
        simp only [A6, List.getElem?_append, List.length_append, List.length_take, List.getElem?_take, List.getElem?_drop, List.getElem?_set, List.length_cons, List.getElem?_cons]
        grind
      rw [this]; rfl
  · rw [if_pos (by simpa using c0), if_pos (show (ldV m p).2 ≠ 0 from c0)]
theorem pY (I : Inv c m) {p w : Int} (hw : u32 w) : Inv c (stV m p w).1 ∧ (stV m p w).1.layout_ = m.layout_ := by
  unfold stV
  split
  · exact ⟨I, rfl⟩
  · split
    · exact ⟨I, rfl⟩
    · exact ⟨⟨I.regs, I.pc, I.epc, I.ca, I.tk, I.il, I.st, fun x hx => by
        rcases List.mem_or_eq_of_mem_set hx with h | h
        · exact I.ws x h
        · rw [h]; exact hw, by have := I.wl; simpa using this, I.sk⟩, rfl⟩
theorem iR {v : Int} (h : v = (Te c n).PC_) : toR (Te c n) = ⟨c.R_, v, c.EPC_, c.Cause_, c.State_, c.Why_, c.Steps_, c.Taken_, c.Out_, c.setup_.Entry_, c.setup_.Vector_, c.setup_.Guard_, c.setup_.Limit_, c.input_⟩ := by rw [h]; rfl
theorem Xb (hn : -16777216 ≤ n ∧ n ≤ 16777216) : IntKind.wrap .u32 (IntKind.wrap .u32 (c.PC_ + 4) + IntKind.wrap .u32 (4 * IntKind.wrap .u32 n)) = (Te c n).PC_ := by
  show _ = IntKind.wrap .u32 (c.PC_ + IntKind.wrap .u32 (4 + IntKind.wrap .u32 (IntKind.wrap .i64 (4 * n))))
  rw [Av (4 * n) (by omega) (by omega)]
  simp only [Jt]
  omega
theorem ga' {R : Arr 16 Int} {q : Int} (hq : Rg q) : ga R q = some (R.g q.toNat) := mS hq.1 (by unfold Rg at hq; omega)
theorem sa' {R : Arr 16 Int} {q v : Int} (hq : Rg q) : sa R q v = some (R.put q.toNat v) := gH hq.1 (by unfold Rg at hq; omega)
theorem qY (I : Inv c m) {q : Int} (hq : Rg q) : u32 (c.R_.g q.toNat) := I.regs _ (by unfold Rg at hq; omega)
theorem Zg (I : Inv c m) {op : Int} (ho : op = 2 ∨ op = 5 ∨ op = 18 ∨ op = 19 ∨ op = 20 ∨ op = 21 ∨ op = 22 ∨ op = 23) (ha : Rg a) (hb : Rg b) (hn : -16777216 ≤ n ∧ n ≤ 16777216) :
    Res (fun i k H => Bj H (.at i 0) (.at k 0) ⟨op, a, b, d, n⟩) ⟨op, a, b, d, n⟩ c m := by
  obtain ⟨x, hx⟩ : ∃ x, x = c.R_.g b.toNat := ⟨_, rfl⟩
  obtain ⟨y, hy⟩ : ∃ y, y = c.R_.g a.toNat := ⟨_, rfl⟩
  have g1 : ga c.R_ b = some x := by rw [hx]; exact ga' hb
  have g2 : ga c.R_ a = some y := by rw [hy]; exact ga' ha
  have uy : u32 y := by rw [hy]; exact qY I ha
  obtain ⟨p, hp⟩ : ∃ p, p = IntKind.wrap .u32 (x + IntKind.wrap .u32 n) := ⟨_, rfl⟩
  have up : u32 p := by rw [hp]; exact Dd _
  rcases ho with rfl | rfl | rfl | rfl | rfl | rfl | rfl | rfl
  · refine Db (c' := Tx c a (IntKind.wrap .u32 n)) ?_ (I.set ha (Dd _)) rfl fun i k => N8 ha fun H A => ?_
    · unfold Ck
      show Af (ga c.R_ a) _ = _
      rw [g2, Aa]
      show Af (ga c.R_ b) _ = _
      rw [g1, Aa, if_neg (by simp [toI]), if_neg (by simp [toI]), if_pos (by rfl)]
      show Af (ga c.R_ a) _ = _
      rw [g2, Aa]
      show Af (sa c.R_ a _) _ = _
      rw [sa' ha]; rfl
    · unfold Bj
      rw [Bg, A.c, Aa, g1, Aa, if_pos (by rfl)]; exact Ks
  · refine Db (c' := Tx c a p) ?_ (I.set ha up) rfl fun i k => N8 ha fun H A => ?_
    · unfold Ck
      show Af (ga c.R_ a) _ = _
      rw [g2, Aa]
      show Af (ga c.R_ b) _ = _
      rw [g1, Aa, if_neg (by simp [toI]), if_neg (by simp [toI]), if_neg (by simp [toI]), if_neg (by simp [toI]), if_neg (by simp [toI]), if_pos (by rfl)]
      show Af (ga c.R_ a) _ = _
      rw [g2, Aa]
      show Af (sa c.R_ a (IntKind.wrap .u32 (x + IntKind.wrap .u32 n))) _ = _
      rw [sa' ha, ← hp]; rfl
    · unfold Bj
      rw [Bg, A.c, Aa, g1, Aa, if_neg (by simp), if_pos (by rfl), ← hp]; exact Ks
  · have rf : Ck (toR c) (toM m) ⟨18, a, b, d, n⟩ = (if ((ldV m p).2 != 0) = true then some (toR (N1 c (ldV m p).2), toM m) else some (toR (Tx c a (ldV m p).1), toM m)) := by
      unfold Ck
      show Af (ga c.R_ a) _ = _
      rw [g2, Aa]
      show Af (ga c.R_ b) _ = _
      rw [g1, Aa, if_neg (by simp), if_neg (by simp), if_neg (by simp), if_neg (by simp), if_neg (by simp), if_neg (by simp), if_neg (by simp), if_pos (by rfl)]
      show Cc (Kf (toM m) (IntKind.wrap .u32 (x + IntKind.wrap .u32 n))) _ = _
      rw [← hp, gI up I.wl]
      show (if ((ldV m p).2 != 0) = true then _ else _) = _
      split
      · rfl
      · show Af (ga c.R_ a) _ = _
        rw [g2, Aa]
        show Af (sa c.R_ a _) _ = _
        rw [sa' ha]; rfl
    have pf : ∀ {H i k}, At H i k c m → Bj H (.at i 0) (.at k 0) ⟨18, a, b, d, n⟩ = (if ((ldV m p).2 != 0) = true then Bq H (.at i 0) (ldV m p).2 else Bh H (.at i 0) a (ldV m p).1) := fun {H i k} A => by
      unfold Bj
      rw [Bg, A.c, Aa, g1, Aa, if_neg (by simp), if_neg (by simp), if_pos (by rfl)]
      show Cc (Ej H (.at k 0) (IntKind.wrap .u32 (x + IntKind.wrap .u32 n))) _ = _
      rw [← hp, aX A up I.wl]
      show (if ((ldV m p).2 != 0) = true then _ else _) = _
      split <;> exact Ks
    by_cases c0 : (ldV m p).2 = 0
    · rw [if_neg (by simpa using c0)] at rf
      refine Db rf (I.set ha (iQ I)) rfl fun i k => N8 ha fun H A => ?_
      show Bj H (.at i 0) (.at k 0) _ = _
      rw [pf A, if_neg (by simpa using c0)]
    · rw [if_pos (by simpa using c0)] at rf
      refine Db rf (I.fault _) rfl fun i k H A => ?_
      obtain ⟨H1, e1, A1⟩ := Rr (ldV m p).2 H A
      refine ⟨H1, ?_, A1⟩
      show Bj H (.at i 0) (.at k 0) _ = _
      rw [pf A, if_pos (by simpa using c0)]; exact e1
  · have rf : Ck (toR c) (toM m) ⟨19, a, b, d, n⟩ = (if ((stV m p y).2 != 0) = true then some (toR (N1 c (stV m p y).2), toM m) else some (toR (Td c), toM (stV m p y).1)) := by
      unfold Ck
      show Af (ga c.R_ a) _ = _
      rw [g2, Aa]
      show Af (ga c.R_ b) _ = _
      rw [g1, Aa, if_neg (by simp), if_neg (by simp), if_neg (by simp), if_neg (by simp), if_neg (by simp), if_neg (by simp), if_neg (by simp), if_neg (by simp), if_pos (by rfl)]
      show Cc (Lp (toM m) (IntKind.wrap .u32 (x + IntKind.wrap .u32 n)) y) _ = _
      rw [← hp, oK up I.wl I.sk]
      show (if ((stV m p y).2 != 0) = true then _ else _) = _
      split <;> rfl
    have sm : (stV m p y).2 ≠ 0 → (stV m p y).1 = m := fun h => by
      unfold stV at h ⊢
      split at h
      · rename_i q; rw [if_pos q]
      · rename_i q; rw [if_neg q]
        split at h
        · rename_i q2; rw [if_pos q2]
        · exact absurd rfl h
    obtain ⟨I2, l2⟩ := pY I (p := p) uy
    by_cases c0 : (stV m p y).2 = 0
    · rw [if_neg (by simpa using c0)] at rf
      refine ⟨_, _, rf, I2.next, l2, by show c.Out_.length ≤ _; omega, fun i k H A => ?_⟩
      obtain ⟨H1, e1, A1, f1⟩ := eN (w := y) up I.wl A
      obtain ⟨A2, f2⟩ := A1.setC (Td c)
      refine ⟨_, ?_, A2, f1.trans f2⟩
      show Bj H (.at i 0) (.at k 0) _ = _
      unfold Bj
      rw [Bg, A.c, Aa, g1, Aa, if_neg (by simp), if_neg (by simp), if_neg (by simp), if_pos (by rfl)]
      show Af (ga c.R_ a) _ = _
      rw [g2, Aa]
      show Cc (D1 H (.at k 0) (IntKind.wrap .u32 (x + IntKind.wrap .u32 n)) y) _ = _
      rw [← hp, e1, Ay, if_neg (by simpa using c0), A1.c, Aa, Dl]; rfl
    · rw [if_pos (by simpa using c0)] at rf
      refine ⟨_, _, rf, I.fault _, rfl, by show c.Out_.length ≤ _; omega, fun i k H A => ?_⟩
      obtain ⟨H1, e1, A1, f1⟩ := eN (w := y) up I.wl A
      rw [sm c0] at A1
      obtain ⟨H2, e2, A2, f2⟩ := Rr (stV m p y).2 H1 A1
      have e2 : Bq H1 (.at i 0) (stV m p y).2 = some H2 := e2
      refine ⟨H2, ?_, A2, f1.trans f2⟩
      show Bj H (.at i 0) (.at k 0) _ = _
      unfold Bj
      rw [Bg, A.c, Aa, g1, Aa, if_neg (by simp), if_neg (by simp), if_neg (by simp), if_pos (by rfl)]
      show Af (ga c.R_ a) _ = _
      rw [g2, Aa]
      show Cc (D1 H (.at k 0) (IntKind.wrap .u32 (x + IntKind.wrap .u32 n)) y) _ = _
      rw [← hp, e1, Ay, if_pos (by simpa using c0), e2]; rfl
  · have rf : Ck (toR c) (toM m) ⟨20, a, b, d, n⟩ = some (toR (if y = 0 then Te c n else Td c), toM m) := by
      unfold Ck
      show Af (ga c.R_ a) _ = _
      rw [g2, Aa]
      show Af (ga c.R_ b) _ = _
      rw [g1, Aa, if_neg (by simp), if_neg (by simp), if_neg (by simp), if_neg (by simp), if_neg (by simp), if_neg (by simp), if_neg (by simp), if_neg (by simp), if_neg (by simp), if_pos (by rfl)]
      by_cases y0 : y = 0
      · rw [if_pos (by simpa using y0), if_pos y0, iR (Xb hn)]; rfl
      · rw [if_neg (by simpa using y0), if_neg y0]; rfl
    refine Db rf (by
      split
      · exact I.jump _
      · exact I.next) (by split <;> rfl) fun i k H A => ?_
    show ∃ H', Bj H (.at i 0) (.at k 0) _ = _ ∧ _
    unfold Bj C5
    rw [Bg, A.c, Aa, g1, Aa, if_neg (by simp), if_neg (by simp), if_neg (by simp), if_neg (by simp), if_pos (by rfl), if_pos (by rfl)]
    show ∃ H', Af (ga c.R_ a) _ = _ ∧ _
    rw [g2, Aa]
    by_cases y0 : y = 0
    · rw [if_pos (by simp [y0]), if_pos y0]
      obtain ⟨H1, e1, A1⟩ := Xa n H A
      exact ⟨H1, congrArg (fun z => Af z _) e1, A1⟩
    · rw [if_neg (by simp [y0]), if_neg y0, Dl]
      exact ⟨_, rfl, A.setC _⟩
  · have rf : Ck (toR c) (toM m) ⟨21, a, b, d, n⟩ = some (toR (if y = 0 then Td c else Te c n), toM m) := by
      unfold Ck
      show Af (ga c.R_ a) _ = _
      rw [g2, Aa]
      show Af (ga c.R_ b) _ = _
      rw [g1, Aa, if_neg (by simp), if_neg (by simp), if_neg (by simp), if_neg (by simp), if_neg (by simp), if_neg (by simp), if_neg (by simp), if_neg (by simp), if_neg (by simp), if_neg (by simp), if_pos (by rfl)]
      by_cases y0 : y = 0
      · rw [if_neg (by simpa using y0), if_pos y0]; rfl
      · rw [if_pos (by simpa using y0), if_neg y0, iR (Xb hn)]; rfl
    refine Db rf (by
      split
      · exact I.next
      · exact I.jump _) (by split <;> rfl) fun i k H A => ?_
    show ∃ H', Bj H (.at i 0) (.at k 0) _ = _ ∧ _
    unfold Bj C5
    rw [Bg, A.c, Aa, g1, Aa, if_neg (by simp), if_neg (by simp), if_neg (by simp), if_neg (by simp), if_neg (by simp), if_pos (by rfl)]
    show ∃ H', Af (ga c.R_ a) _ = _ ∧ _
    rw [g2, Aa]
    by_cases y0 : y = 0
    · rw [if_neg (by simp [y0]), if_pos y0, Dl]
      exact ⟨_, rfl, A.setC _⟩
    · rw [if_pos (by simp [y0]), if_neg y0]
      obtain ⟨H1, e1, A1⟩ := Xa n H A
      exact ⟨H1, congrArg (fun z => Af z _) e1, A1⟩
  · have rf : Ck (toR c) (toM m) ⟨22, a, b, d, n⟩ = some (toR (Te c n), toM m) := by
      unfold Ck
      show Af (ga c.R_ a) _ = _
      rw [g2, Aa]
      show Af (ga c.R_ b) _ = _
      rw [g1, Aa, if_neg (by simp), if_neg (by simp), if_neg (by simp), if_neg (by simp), if_neg (by simp), if_neg (by simp), if_neg (by simp), if_neg (by simp), if_neg (by simp), if_neg (by simp), if_neg (by simp), if_pos (by rfl), iR (Xb hn)]; rfl
    refine Db rf (I.jump _) rfl fun i k H A => ?_
    obtain ⟨H1, e1, A1⟩ := Xa n H A
    refine ⟨H1, ?_, A1⟩
    show Bj H (.at i 0) (.at k 0) _ = _
    unfold Bj C5
    rw [Bg, A.c, Aa, g1, Aa, if_neg (by simp), if_neg (by simp), if_neg (by simp), if_neg (by simp), if_neg (by simp), if_neg (by simp), if_neg (by simp)]
    exact congrArg (fun z => Af z _) e1
  · obtain ⟨c1, hc1⟩ : ∃ c1 : T_cpu_Cpu, c1 = ⟨c.R_.put 14 (IntKind.wrap .u32 (c.PC_ + 4)), c.PC_, c.EPC_, c.Cause_, c.State_, c.Why_, c.Steps_, c.Taken_, c.Out_, c.setup_, c.input_⟩ := ⟨_, rfl⟩
    have I1 : Inv c1 m := by rw [hc1]; exact ⟨Uv I.regs (by decide) (Dd _), I.pc, I.epc, I.ca, I.tk, I.il, I.st, I.ws, I.wl, I.sk⟩
    have rf : Ck (toR c) (toM m) ⟨23, a, b, d, n⟩ = some (toR (Te c1 n), toM m) := by
      unfold Ck
      show Af (ga c.R_ a) _ = _
      rw [g2, Aa]
      show Af (ga c.R_ b) _ = _
      rw [g1, Aa, if_neg (by simp), if_neg (by simp), if_neg (by simp), if_neg (by simp), if_neg (by simp), if_neg (by simp), if_neg (by simp), if_neg (by simp), if_neg (by simp), if_neg (by simp), if_neg (by simp), if_neg (by simp), if_pos (by rfl), iR (c := c1) (Xb (c := c1) hn)]
      have e : (Ij [c.R_.g 0, c.R_.g 1, c.R_.g 2, c.R_.g 3, c.R_.g 4, c.R_.g 5, c.R_.g 6, c.R_.g 7, c.R_.g 8, c.R_.g 9, c.R_.g 10, c.R_.g 11, c.R_.g 12, c.R_.g 13, IntKind.wrap .u32 (c.PC_ + 4), c.R_.g 15] : Arr 16 Int) = c1.R_ := by rw [hc1]; exact Sk _ _
      rw [← e, hc1]; rfl
    refine Db rf (I1.jump _) (by rw [hc1]; rfl) fun i k H A => ?_
    obtain ⟨A1, f1⟩ := A.setC c1
    obtain ⟨H2, e2, A2, f2⟩ := Xa n (Bl H i 0 c1) A1
    refine ⟨H2, ?_, A2, f1.trans f2⟩
    show Bj H (.at i 0) (.at k 0) _ = _
    unfold Bj C5
    rw [Bg, A.c, Aa, g1, Aa, if_neg (by simp), if_neg (by simp), if_neg (by simp), if_neg (by simp), if_neg (by simp), if_neg (by simp), if_pos (by rfl), Dl, Sk]
    rw [hc1] at e2
    exact congrArg (fun z => Af z _) e2
end
end Go.Proofs.Abs
namespace Go.Proofs.Abs
open Go
set_option linter.unusedVariables false
set_option linter.unusedSimpArgs false
section
variable {c : T_cpu_Cpu} {m : T_memory_Mem} {a b d n : Int}
theorem Ea {op : Int} (ho : 24 ≤ op ∧ op ≤ 33) (ha : Rg a) (hb : Rg b) {r : T_cpu_Cpu} (h : Ch (toR c) ⟨op, a, b, d, n⟩ (c.R_.g a.toNat) = some (toR r)) : Ck (toR c) (toM m) ⟨op, a, b, d, n⟩ = some (toR r, toM m) := by
  unfold Ck
  show Af (ga c.R_ a) _ = _
  rw [ga' ha, Aa]
  show Af (ga c.R_ b) _ = _
  rw [ga' hb, Aa, if_neg (by simp; omega), if_neg (by simp; omega), if_neg (by simp; omega), if_neg (by simp; omega), if_neg (by simp; omega), if_neg (by simp; omega), if_neg (by simp; omega), if_neg (by simp; omega), if_neg (by simp; omega), if_neg (by simp; omega), if_neg (by simp; omega), if_neg (by simp; omega), if_neg (by simp; omega), h]
  rfl
theorem cP {g : Ah → Option Ah} {i k : Nat} {c' : T_cpu_Cpu} (h : ∀ H, At H i k c m → g H = some (Bl H i 0 c')) : To g i k c m c' m := fun H A => ⟨_, h H A, A.setC _⟩
theorem Ux {g : Ah → Option Ah} {i k : Nat} {w : Int} (h : ∀ H, At H i k c m → g H = C3 H (.at i 0) w) : To g i k c m (Lq c w) m := fun H A => by
  obtain ⟨H1, e1, A1⟩ := Wz w H A
  exact ⟨H1, (h H A).trans e1, A1⟩
theorem iS {g : Ah → Option Ah} {i k : Nat} {w : Int} {t : Bool} (h : ∀ H, At H i k c m → g H = Fe H (.at i 0) t w) : To g i k c m (if t = true then Td c else Lq c w) m := fun H A => by
  obtain ⟨H1, e1, A1⟩ := mT t w H A
  exact ⟨H1, (h H A).trans e1, A1⟩
def pZ (c : T_cpu_Cpu) (n y : Int) : T_cpu_Cpu := ⟨c.R_, IntKind.wrap .u32 (c.PC_ + 4), c.EPC_, c.Cause_, c.State_, c.Why_, c.Steps_, c.Taken_, c.Out_ ++ [⟨n, IntKind.wrap .i32 y⟩], c.setup_, c.input_⟩
theorem iT (I : Inv c m) {op : Int} (ho : op = 3 ∨ op = 4 ∨ op = 34 ∨ op = 26 ∨ op = 30 ∨ op = 33) (ha : Rg a) (hb : Rg b) (hn : 0 ≤ n ∧ n < 65536) (hl : c.Out_.length ≤ 1000) :
    Res (fun i k H => Cr H (.at i 0) ⟨op, a, b, d, n⟩) ⟨op, a, b, d, n⟩ c m := by
  obtain ⟨x, hx⟩ : ∃ x, x = c.R_.g b.toNat := ⟨_, rfl⟩
  obtain ⟨y, hy⟩ : ∃ y, y = c.R_.g a.toNat := ⟨_, rfl⟩
  have g1 : ga c.R_ b = some x := by rw [hx]; exact ga' hb
  have g2 : ga c.R_ a = some y := by rw [hy]; exact ga' ha
  have wn : IntKind.wrap .u32 n = n := Cj n (by omega) (by omega)
  rcases ho with rfl | rfl | rfl | rfl | rfl | rfl
  · refine Db (c' := Tx c a (IntKind.wrap .u32 (IntKind.wrap .u32 n * 65536))) ?_ (I.set ha (Dd _)) rfl fun i k => N8 ha fun H A => ?_
    · unfold Ck
      show Af (ga c.R_ a) _ = _
      rw [g2, Aa]
      show Af (ga c.R_ b) _ = _
      rw [g1, Aa, if_neg (by simp [toI]), if_neg (by simp [toI]), if_neg (by simp [toI]), if_pos (by rfl)]
      show Af (ga c.R_ a) _ = _
      rw [g2, Aa]
      show Af (sa c.R_ a _) _ = _
      rw [sa' ha]; rfl
    · unfold Cr
      rw [if_pos (by rfl)]; exact Ks
  · refine Db (c' := Tx c a (A9 .or .u32 x (IntKind.wrap .u32 n))) ?_ (I.set ha (Rs _ _ _ ⟨_, rfl⟩)) rfl fun i k => N8 ha fun H A => ?_
    · unfold Ck
      show Af (ga c.R_ a) _ = _
      rw [g2, Aa]
      show Af (ga c.R_ b) _ = _
      rw [g1, Aa, if_neg (by simp [toI]), if_neg (by simp [toI]), if_neg (by simp [toI]), if_neg (by simp [toI]), if_pos (by rfl)]
      show Af (ga c.R_ a) _ = _
      rw [g2, Aa]
      show Af (sa c.R_ a _) _ = _
      rw [sa' ha]; rfl
    · unfold Cr
      rw [if_neg (by simp), if_pos (by rfl), Bg, A.c, Aa, g1, Aa]; exact Ks
  · refine Db (c' := Tx c a (A9 .xor .u32 x (IntKind.wrap .u32 n))) ?_ (I.set ha (Rs _ _ _ ⟨_, rfl⟩)) rfl fun i k => N8 ha fun H A => ?_
    · unfold Ck
      show Af (ga c.R_ a) _ = _
      rw [g2, Aa]
      show Af (ga c.R_ b) _ = _
      rw [g1, Aa, if_neg (by simp [toI]), if_neg (by simp [toI]), if_neg (by simp [toI]), if_neg (by simp [toI]), if_neg (by simp [toI]), if_neg (by simp [toI]), if_pos (by rfl)]
      show Af (ga c.R_ a) _ = _
      rw [g2, Aa]
      show Af (sa c.R_ a _) _ = _
      rw [sa' ha]; rfl
    · unfold Cr
      rw [if_neg (by simp), if_neg (by simp), if_pos (by rfl), Bg, A.c, Aa, g1, Aa]; exact Ks
  · by_cases q : y ≥ IntKind.wrap .u32 n
    · refine Db (c' := Lq c (IntKind.wrap .u32 b)) (Ea (by simp) ha hb ?_) (I.trap (Dd _)) (O3 _) fun i k => Ux fun H A => ?_
      · unfold Ch
        rw [if_neg (by simp), if_neg (by simp), if_pos (by rfl), if_pos (by rw [← hy]; simpa using q), Ty]; rfl
      · unfold Cr
        rw [if_neg (by simp), if_neg (by simp), if_neg (by simp), if_pos (by rfl), Bg, A.c, Aa, g2, Aa, if_pos (by simpa using q)]; exact Ks
    · refine Db (c' := Td c) (Ea (by simp) ha hb ?_) I.next rfl fun i k => cP fun H A => ?_
      · unfold Ch
        rw [if_neg (by simp), if_neg (by simp), if_pos (by rfl), if_neg (by rw [← hy]; simpa using q)]; rfl
      · unfold Cr
        rw [if_neg (by simp), if_neg (by simp), if_neg (by simp), if_pos (by rfl), Bg, A.c, Aa, g2, Aa, if_neg (by simpa using q)]; rfl
  · refine ⟨pZ c n y, m, Ea (r := pZ c n y) (by simp) ha hb ?_, ⟨I.regs, Dd _, I.epc, I.ca, I.tk, I.il, I.st, I.ws, I.wl, I.sk⟩, rfl, by show (c.Out_ ++ [_]).length ≤ _; simp, fun i k H A => ?_⟩
    · unfold Ch
      rw [if_neg (by simp), if_neg (by simp), if_neg (by simp), if_neg (by simp), if_neg (by simp), if_neg (by simp), if_pos (by rfl), ← hy]
      have o1 : app 16 ([] : List T_api_Event) (toR c).Out_ = some c.Out_ := by
        show app 16 ([] : List T_api_Event) c.Out_ = some c.Out_
        rw [Uu (by simp; omega)]; rfl
      rw [o1, Aa, Uu (by simp; omega)]; rfl
    · obtain ⟨A1, f1⟩ := A.setC ⟨c.R_, c.PC_, c.EPC_, c.Cause_, c.State_, c.Why_, c.Steps_, c.Taken_, c.Out_ ++ [⟨n, IntKind.wrap .i32 y⟩], c.setup_, c.input_⟩
      obtain ⟨A2, f2⟩ := A1.setC (pZ c n y)
      refine ⟨_, ?_, A2, f1.trans f2⟩
      show Cr H (.at i 0) _ = _
      unfold Cr
      rw [if_neg (by simp), if_neg (by simp), if_neg (by simp), if_neg (by simp), if_pos (by rfl), Bg, A.c, Aa, g2, Aa, Uu (by simp; omega)]; rfl
  · have pg : ∀ H i, Cr H (.at i 0) ⟨33, a, b, d, n⟩ = Ek H (.at i 0) ⟨33, a, b, d, n⟩ := fun H i => by
      unfold Cr
      rw [if_neg (by simp), if_neg (by simp), if_neg (by simp), if_neg (by simp), if_neg (by simp)]; exact Ks
    have s1 : ∀ v, sa c.R_ a v = some (c.R_.put a.toNat v) := fun v => sa' ha
    by_cases n0 : n = 0
    · subst n0
      refine Db (c' := Tx c a c.EPC_) (Ea (by simp) ha hb ?_) (I.set ha I.epc) rfl fun i k => N8 ha fun H A => ?_
      · unfold Ch
        rw [if_neg (by simp), if_neg (by simp), if_neg (by simp), if_neg (by simp), if_neg (by simp), if_neg (by simp), if_neg (by simp), if_neg (by simp), if_neg (by simp), if_pos (by rfl), if_neg (by simp)]
        show Af (ga c.R_ a) _ = _
        rw [g2, Aa]
        show Af (sa c.R_ a c.EPC_) _ = _
        rw [s1]; rfl
      · rw [pg]
        unfold Ek
        rw [if_pos (by rfl), Bg, A.c, Aa]; exact Ks
    · by_cases n1 : n = 1
      · subst n1
        refine Db (c' := Tx c a c.Cause_) (Ea (by simp) ha hb ?_) (I.set ha I.ca) rfl fun i k => N8 ha fun H A => ?_
        · unfold Ch
          rw [if_neg (by simp), if_neg (by simp), if_neg (by simp), if_neg (by simp), if_neg (by simp), if_neg (by simp), if_neg (by simp), if_neg (by simp), if_neg (by simp), if_pos (by rfl), if_neg (by simp)]
          show Af (ga c.R_ a) _ = _
          rw [g2, Aa]
          show Af (sa c.R_ a c.EPC_) _ = _
          rw [s1, Aa, if_pos (by rfl)]
          show Af (ga (c.R_.put a.toNat c.EPC_) a) _ = _
          rw [ga' ha, Aa]
          show Af (sa (c.R_.put a.toNat c.EPC_) a c.Cause_) _ = _
          rw [sa' ha, oI]; rfl
        · rw [pg]
          unfold Ek
          rw [if_neg (by simp), if_pos (by rfl), Bg, A.c, Aa]; exact Ks
      · refine Db (c' := N1 c 20) (Ea (by simp) ha hb ?_) (I.fault _) rfl fun i k H A => ?_
        · unfold Ch
          rw [if_neg (by simp), if_neg (by simp), if_neg (by simp), if_neg (by simp), if_neg (by simp), if_neg (by simp), if_neg (by simp), if_neg (by simp), if_neg (by simp), if_pos (by rfl), if_pos (by simp; omega)]; rfl
        · obtain ⟨H1, e1, A1⟩ := Rr 20 H A
          refine ⟨H1, ?_, A1⟩
          show Cr H (.at i 0) _ = _
          rw [pg]
          unfold Ek
          rw [if_neg (by simpa using n0), if_neg (by simpa using n1)]; exact (Ks (q := Af _ _)).symm.trans (by rw [Ks]; exact Ks.trans e1)
theorem cQ (I : Inv c m) {op : Int} (ho : op = 1 ∨ op = 24 ∨ op = 25 ∨ op = 27 ∨ op = 28 ∨ op = 29 ∨ op = 31 ∨ op = 32) (ha : Rg a) (hb : Rg b) (hn : 0 ≤ n ∧ n < 65536) :
    Res (fun i k H => Cp H (.at i 0) ⟨op, a, b, d, n⟩) ⟨op, a, b, d, n⟩ c m := by
  obtain ⟨y, hy⟩ : ∃ y, y = c.R_.g a.toNat := ⟨_, rfl⟩
  have g1 : ga c.R_ b = some (c.R_.g b.toNat) := ga' hb
  have g2 : ga c.R_ a = some y := by rw [hy]; exact ga' ha
  have uy : u32 y := by rw [hy]; exact qY I ha
  rcases ho with rfl | rfl | rfl | rfl | rfl | rfl | rfl | rfl
  · refine Db (c' := ⟨c.R_, c.PC_, c.EPC_, c.Cause_, 1, c.Why_, c.Steps_, c.Taken_, c.Out_, c.setup_, c.input_⟩) ?_ ⟨I.regs, I.pc, I.epc, I.ca, I.tk, I.il, I.st, I.ws, I.wl, I.sk⟩ rfl fun i k => cP fun H A => ?_
    · unfold Ck
      show Af (ga c.R_ a) _ = _
      rw [g2, Aa]
      show Af (ga c.R_ b) _ = _
      rw [g1, Aa, if_neg (by simp [toI]), if_pos (by rfl)]; rfl
    · unfold Cp
      rw [if_pos (by rfl), Bg, A.c, Aa]; rfl
  · refine Db (c' := ⟨c.R_, y, c.EPC_, c.Cause_, c.State_, c.Why_, c.Steps_, c.Taken_, c.Out_, c.setup_, c.input_⟩) (Ea (by simp) ha hb ?_) ⟨I.regs, uy, I.epc, I.ca, I.tk, I.il, I.st, I.ws, I.wl, I.sk⟩ rfl fun i k => cP fun H A => ?_
    · rw [← hy]; rfl
    · unfold Cp
      rw [if_neg (by simp), if_pos (by rfl), Bg, A.c, Aa, g2]; rfl
  · refine Db (c' := ⟨c.R_.put 14 (IntKind.wrap .u32 (c.PC_ + 4)), y, c.EPC_, c.Cause_, c.State_, c.Why_, c.Steps_, c.Taken_, c.Out_, c.setup_, c.input_⟩) (Ea (by simp) ha hb ?_) ⟨Uv I.regs (by decide) (Dd _), uy, I.epc, I.ca, I.tk, I.il, I.st, I.ws, I.wl, I.sk⟩ rfl fun i k H A => ?_
    · rw [← hy]
      unfold Ch
      rw [if_neg (by simp), if_pos (by rfl)]
      show some _ = _
      have e : (Ij [c.R_.g 0, c.R_.g 1, c.R_.g 2, c.R_.g 3, c.R_.g 4, c.R_.g 5, c.R_.g 6, c.R_.g 7, c.R_.g 8, c.R_.g 9, c.R_.g 10, c.R_.g 11, c.R_.g 12, c.R_.g 13, IntKind.wrap .u32 (c.PC_ + 4), c.R_.g 15] : Arr 16 Int) = c.R_.put 14 (IntKind.wrap .u32 (c.PC_ + 4)) := Sk _ _
      rw [← e]; rfl
    · obtain ⟨A1, f1⟩ := A.setC ⟨c.R_.put 14 (IntKind.wrap .u32 (c.PC_ + 4)), c.PC_, c.EPC_, c.Cause_, c.State_, c.Why_, c.Steps_, c.Taken_, c.Out_, c.setup_, c.input_⟩
      obtain ⟨A2, f2⟩ := A1.setC ⟨c.R_.put 14 (IntKind.wrap .u32 (c.PC_ + 4)), y, c.EPC_, c.Cause_, c.State_, c.Why_, c.Steps_, c.Taken_, c.Out_, c.setup_, c.input_⟩
      refine ⟨_, ?_, A2, f1.trans f2⟩
      show Cp H (.at i 0) _ = _
      unfold Cp
      rw [if_neg (by simp), if_neg (by simp), if_pos (by rfl), Bg, A.c, Aa, g2, Aa, Dl, Dl, Sk]; rfl
  · refine Db (c' := if (y != 0) = true then Td c else Lq c 2) (Ea (by simp) ha hb ?_) ?_ ?_ fun i k => iS fun H A => ?_
    · rw [← hy]
      unfold Ch
      rw [if_neg (by simp), if_neg (by simp), if_neg (by simp), if_pos (by rfl)]
      by_cases y0 : y = 0
      · rw [if_pos (by simpa using y0), if_neg (by simpa using y0), Ty]; rfl
      · rw [if_neg (by simpa using y0), if_pos (by simpa using y0)]; rfl
    · split
      · exact I.next
      · exact I.trap ⟨by decide, by decide⟩
    · split
      · rfl
      · exact O3 _
    · unfold Cp
      rw [if_neg (by simp), if_neg (by simp), if_neg (by simp), if_pos (by rfl), Bg, A.c, Aa, g2, Aa]; exact Ks
  · refine Db (c' := Lq c (IntKind.wrap .u32 n)) (Ea (by simp) ha hb ?_) (I.trap (Dd _)) (O3 _) fun i k => Ux fun H A => ?_
    · unfold Ch
      rw [if_neg (by simp), if_neg (by simp), if_neg (by simp), if_neg (by simp), if_pos (by rfl), Ty]; rfl
    · unfold Cp
      rw [if_neg (by simp), if_neg (by simp), if_neg (by simp), if_neg (by simp), if_pos (by rfl)]; exact Ks
  · refine Db (c' := Lq c y) (Ea (by simp) ha hb ?_) (I.trap uy) (O3 _) fun i k => Ux fun H A => ?_
    · rw [← hy]
      unfold Ch
      rw [if_neg (by simp), if_neg (by simp), if_neg (by simp), if_neg (by simp), if_neg (by simp), if_pos (by rfl), Ty]; rfl
    · unfold Cp
      rw [if_neg (by simp), if_neg (by simp), if_neg (by simp), if_neg (by simp), if_neg (by simp), if_pos (by rfl), Bg, A.c, Aa, g2, Aa]; exact Ks
  · obtain ⟨t0, t1⟩ := I.tk
    have il := I.il
    by_cases q : c.Taken_ ≥ (c.input_.length : Int)
    · refine Db (c' := Lq c 7) (Ea (by simp) ha hb ?_) (I.trap ⟨by decide, by decide⟩) (O3 _) fun i k => Ux fun H A => ?_
      · unfold Ch
        rw [if_neg (by simp), if_neg (by simp), if_neg (by simp), if_neg (by simp), if_neg (by simp), if_neg (by simp), if_neg (by simp), if_pos (by rfl), if_pos (show decide ((toR c).Taken_ ≥ ((toR c).Input_.length : Int)) = true from (decide_eq_true q : decide (c.Taken_ ≥ (c.input_.length : Int)) = true)), Ty]; rfl
      · unfold Cp
        rw [if_neg (by simp), if_neg (by simp), if_neg (by simp), if_neg (by simp), if_neg (by simp), if_neg (by simp), if_pos (by rfl), Bg, A.c, Aa, if_pos (by simpa using q)]; exact Ks
    · have wt : IntKind.wrap .i64 (c.Taken_ + 1) = c.Taken_ + 1 := Av _ (by omega) (by omega)
      have wt2 : IntKind.wrap .i64 (c.Taken_ + 1 - 1) = c.Taken_ := by rw [Av _ (by omega) (by omega)]; omega
      obtain ⟨x, hx⟩ : ∃ x, gi c.input_ c.Taken_ = some x := ⟨_, Qp (by omega) (by omega)⟩
      refine Db (c' := ⟨c.R_.put a.toNat (IntKind.wrap .u32 x), IntKind.wrap .u32 (c.PC_ + 4), c.EPC_, c.Cause_, c.State_, c.Why_, c.Steps_, c.Taken_ + 1, c.Out_, c.setup_, c.input_⟩) (Ea (by simp) ha hb ?_) ⟨Uv I.regs (by unfold Rg at ha; omega) (Dd _), Dd _, I.epc, I.ca, ⟨by show 0 ≤ c.Taken_ + 1; omega, by show c.Taken_ + 1 ≤ c.input_.length; omega⟩, I.il, I.st, I.ws, I.wl, I.sk⟩ rfl fun i k H A => ?_
      · unfold Ch
        rw [if_neg (by simp), if_neg (by simp), if_neg (by simp), if_neg (by simp), if_neg (by simp), if_neg (by simp), if_neg (by simp), if_pos (by rfl), if_neg (show ¬ decide ((toR c).Taken_ ≥ ((toR c).Input_.length : Int)) = true from (fun h => q (of_decide_eq_true h) : ¬ decide (c.Taken_ ≥ (c.input_.length : Int)) = true))]
        show Af (gi c.input_ c.Taken_) _ = _
        rw [hx, Aa]
        show Af (ga c.R_ a) _ = _
        rw [g2, Aa]
        show Af (sa c.R_ a _) _ = _
        rw [sa' ha, Aa]
        show some _ = _
        have : IntKind.wrap .i64 ((toR c).Taken_ + 1) = c.Taken_ + 1 := wt
        rw [this]; rfl
      · obtain ⟨A1, f1⟩ := A.setC ⟨c.R_, c.PC_, c.EPC_, c.Cause_, c.State_, c.Why_, c.Steps_, c.Taken_ + 1, c.Out_, c.setup_, c.input_⟩
        obtain ⟨H2, e2, A2, f2⟩ := cM ha (IntKind.wrap .u32 x) _ A1
        refine ⟨H2, ?_, A2, f1.trans f2⟩
        show Cp H (.at i 0) _ = _
        unfold Cp
        rw [if_neg (by simp), if_neg (by simp), if_neg (by simp), if_neg (by simp), if_neg (by simp), if_neg (by simp), if_pos (by rfl), Bg, A.c, Aa, if_neg (by simpa using q), Dl, wt, wt2, hx, Aa]
        exact Ks.trans e2
  · refine Db (c' := if (decide (IntKind.wrap .i32 y ≥ IntKind.wrap .i32 c.setup_.Limit_)) = true then Td c else Lq c 5) (Ea (by simp) ha hb ?_) ?_ ?_ fun i k => iS fun H A => ?_
    · rw [← hy]
      unfold Ch
      rw [if_neg (by simp), if_neg (by simp), if_neg (by simp), if_neg (by simp), if_neg (by simp), if_neg (by simp), if_neg (by simp), if_neg (by simp), if_pos (by rfl)]
      by_cases y0 : IntKind.wrap .i32 y ≥ IntKind.wrap .i32 c.setup_.Limit_
      · rw [if_neg (show ¬ decide (IntKind.wrap .i32 y < IntKind.wrap .i32 (toR c).Limit_) = true from (by simp; omega : ¬ decide (IntKind.wrap .i32 y < IntKind.wrap .i32 c.setup_.Limit_) = true)), if_pos (by simpa using y0)]; rfl
      · rw [if_pos (show decide (IntKind.wrap .i32 y < IntKind.wrap .i32 (toR c).Limit_) = true from (by simp; omega : decide (IntKind.wrap .i32 y < IntKind.wrap .i32 c.setup_.Limit_) = true)), if_neg (by simpa using y0), Ty]; rfl
    · split
      · exact I.next
      · exact I.trap ⟨by decide, by decide⟩
    · split
      · rfl
      · exact O3 _
    · unfold Cp
      rw [if_neg (by simp), if_neg (by simp), if_neg (by simp), if_neg (by simp), if_neg (by simp), if_neg (by simp), if_neg (by simp), Bg, A.c, Aa, g2, Aa]; exact Ks
end
end Go.Proofs.Abs
namespace Go.Proofs.Abs
open Go
set_option linter.unusedVariables false
set_option linter.unusedSimpArgs false
section
variable {c : T_cpu_Cpu} {m : T_memory_Mem}
def ftV (m : T_memory_Mem) (p : Int) : Int × Int := if (ldV m p).2 ≠ 0 then (0, (ldV m p).2) else if p ≥ m.layout_.Code_ then (0, 31) else ((ldV m p).1, 0)
theorem oL (I : Inv c m) (p : Int) : u32 (ftV m p).1 := by
  unfold ftV
  have z : u32 0 := ⟨by decide, by decide⟩
  split
  · exact z
  · split
    · exact z
    · exact iQ I
theorem gK {H : Ah} {i k : Nat} {p : Int} (A : At H i k c m) (hp : u32 p) (hk : (m.words_.length : Int) * 4 = m.layout_.Stack_) : Hf H (.at k 0) p = some (ftV m p) := by
  have hp' := hp
  unfold u32 at hp
  unfold Hf ftV
  rw [Tz A hp' hk]
  by_cases c1 : p % 4 = 0
  · by_cases c2 : p ≥ m.layout_.Stack_
    · rw [if_neg (by simpa using c1), if_pos c2, Ay, if_pos (by simp), aV c1 c2, if_pos (by simp)]
    · rw [if_neg (by simpa using c1), if_neg c2, Ay, if_neg (by simp), Bg, A.m, Aa, aW c1 c2, if_neg (show ¬ (m.words_[(p / 4).toNat]?.getD 0, (0 : Int)).2 ≠ 0 by simp)]
      by_cases c3 : p ≥ m.layout_.Code_
      · rw [if_pos (by simpa using c3), if_pos c3]
      · rw [if_neg (by simpa using c3), if_neg c3, Uw hp' hk c2, Aa]
  · rw [if_pos c1, Ay, if_pos (by simp), aU c1, if_pos (by simp)]
theorem oM {p : Int} (hp : u32 p) (hk : (m.words_.length : Int) * 4 = m.layout_.Stack_) : Gn (toM m) p = some (ftV m p) := by
  unfold Gn ftV
  rw [gI hp hk]
  have e : ∀ q : Int × Int, Cc (some q) (fun r1 r2 => if ((r2 == 0) && (decide (p ≥ ((toM m).Ends_.g 0)))) = true then (some (0, 31)) else (some (r1, r2))) = if ((q.2 == 0) && (decide (p ≥ ((toM m).Ends_.g 0)))) = true then some (0, 31) else some (q.1, q.2) := fun q => rfl
  rw [e]
  have e1 : (toM m).Ends_.g 0 = m.layout_.Code_ := rfl
  rw [e1]
  by_cases c0 : (ldV m p).2 = 0
  · rw [if_neg (show ¬ (ldV m p).2 ≠ 0 by simpa using c0), c0]
    by_cases c3 : p ≥ m.layout_.Code_
    · rw [if_pos (by simpa using c3), if_pos c3]
    · rw [if_neg (by simpa using c3), if_neg c3]
  · rw [if_neg (by simp [c0]), if_pos (show (ldV m p).2 ≠ 0 from c0)]
    by_cases c1 : p % 4 = 0
    · by_cases c2 : p ≥ m.layout_.Stack_
      · rw [aV c1 c2]
      · rw [aW c1 c2] at c0; exact absurd rfl c0
    · rw [aU c1]
theorem mV (I : Inv c m) (hl : c.Out_.length ≤ 1000) {x : T_instr_Instr} {sh : Int} (ra : Rg x.A_) (rb : Rg x.B_) (rd : Rg x.C_) (im : imP sh x.Imm_)
    (hs : sh = 0 ∧ x.Op_ = 1 ∨ sh = 1 ∧ (x.Op_ = 2 ∨ x.Op_ = 20 ∨ x.Op_ = 21) ∨ sh = 2 ∧ (x.Op_ = 3 ∨ x.Op_ = 30 ∨ x.Op_ = 33) ∨ sh = 3 ∧ (x.Op_ = 5 ∨ x.Op_ = 18 ∨ x.Op_ = 19) ∨ sh = 4 ∧ (x.Op_ = 4 ∨ x.Op_ = 26 ∨ x.Op_ = 34) ∨ sh = 5 ∧ 6 ≤ x.Op_ ∧ x.Op_ ≤ 17 ∨ sh = 6 ∧ (x.Op_ = 24 ∨ x.Op_ = 25 ∨ x.Op_ = 27 ∨ x.Op_ = 29 ∨ x.Op_ = 31 ∨ x.Op_ = 32) ∨ sh = 7 ∧ (x.Op_ = 22 ∨ x.Op_ = 23) ∨ sh = 8 ∧ x.Op_ = 28) :
    ∃ f, Res f x c m ∧ ∀ H i k, (if (sh == 5) = true then (Af (Bc H (Ptr.at i 0) x) fun H33 => Ce i 0 H33) else (if (sh == 3) = true then (El H i 0 (.at k 0) x sh (sh == 3)) else (if (sh == 1) = true then (Df H i 0 (.at k 0) x sh (sh == 1)) else (Df H i 0 (.at k 0) x sh (sh == 7))))) = Af (f i k H) fun H33 => Ce i 0 H33 := by
  unfold imP at im
  rcases hs with ⟨rfl, h⟩ | ⟨rfl, h⟩ | ⟨rfl, h⟩ | ⟨rfl, h⟩ | ⟨rfl, h⟩ | ⟨rfl, h⟩ | ⟨rfl, h⟩ | ⟨rfl, h⟩ | ⟨rfl, h⟩
  · exact ⟨_, cQ I (.inl h) ra rb (by omega), fun H i k => rfl⟩
  · exact ⟨_, Zg I (by omega) ra rb (by omega), fun H i k => rfl⟩
  · exact ⟨_, iT I (by omega) ra rb (by omega) hl, fun H i k => rfl⟩
  · exact ⟨_, Zg I (by omega) ra rb (by omega), fun H i k => rfl⟩
  · exact ⟨_, iT I (by omega) ra rb (by omega) hl, fun H i k => rfl⟩
  · exact ⟨_, kH I h ra rb rd, fun H i k => rfl⟩
  · exact ⟨_, cQ I (by omega) ra rb (by omega), fun H i k => rfl⟩
  · exact ⟨_, Zg I (by omega) ra rb (by omega), fun H i k => rfl⟩
  · exact ⟨_, cQ I (by omega) ra rb (by omega), fun H i k => rfl⟩
theorem oN (I : Inv c m) (hl : c.Out_.length ≤ 1000) : ∃ c' m', Fy (toR c) (toM m) = some (toR c', toM m') ∧ Inv c' m' ∧ m'.layout_ = m.layout_ ∧ c'.Out_.length ≤ c.Out_.length + 1 ∧
    ∀ i k H, At H i k c m → ∃ H', Fb H (.at i 0) (.at k 0) = some (H', c'.State_) ∧ At H' i k c' m' ∧ Fr H H' i k := by
  unfold Fy
  by_cases s0 : c.State_ = 0
  · obtain ⟨c1, hc1⟩ : ∃ c1 : T_cpu_Cpu, c1 = ⟨c.R_, c.PC_, c.EPC_, c.Cause_, c.State_, c.Why_, IntKind.wrap .i64 (c.Steps_ + 1), c.Taken_, c.Out_, c.setup_, c.input_⟩ := ⟨_, rfl⟩
    have I1 : Inv c1 m := by rw [hc1]; exact ⟨I.regs, I.pc, I.epc, I.ca, I.tk, I.il, I.st, I.ws, I.wl, I.sk⟩
    have l1 : c1.Out_ = c.Out_ := by rw [hc1]
    have p1 : c1.PC_ = c.PC_ := by rw [hc1]
    rw [if_neg (show ¬ ((toR c).State_ != 0) = true by show ¬ (c.State_ != 0) = true; simpa using s0)]
    have e1 : (⟨(toR c).R_, (toR c).PC_, (toR c).EPC_, (toR c).Cause_, (toR c).State_, (toR c).Why_, IntKind.wrap .i64 ((toR c).Steps_ + 1), (toR c).Taken_, (toR c).Out_, (toR c).Entry_, (toR c).Vector_, (toR c).Guard_, (toR c).Limit_, (toR c).Input_⟩ : T_ref04_Cpu) = toR c1 := by rw [hc1]; rfl
    rw [e1]
    show ∃ c' m', Cc (Gn (toM m) c.PC_) _ = _ ∧ _
    rw [oM I.pc I.wl]
    have pg : ∀ i k H, At H i k c m → ∃ H7, At H7 i k c1 m ∧ Fr H H7 i k ∧ Fb H (.at i 0) (.at k 0) = Cc (some (ftV m c.PC_)) fun r10 r11 =>
        if (r11 != 0) = true then (Af (Bq H7 (Ptr.at i 0) r11) fun H15 => Ce i 0 H15) else (Cc (Km r10) fun r18 r19 =>
        if (r19 != 0) = true then (Af (Bq H7 (Ptr.at i 0) r19) fun H23 => Ce i 0 H23) else (Af (D7 r18.Op_) fun r26 =>
        if (r26 == 5) = true then (Af (Bc H7 (Ptr.at i 0) r18) fun H33 => Ce i 0 H33) else (if (r26 == 3) = true then (El H7 i 0 (.at k 0) r18 r26 (r26 == 3)) else (if (r26 == 1) = true then (Df H7 i 0 (.at k 0) r18 r26 (r26 == 1)) else (Df H7 i 0 (.at k 0) r18 r26 (r26 == 7)))))) := fun i k H A => by
      obtain ⟨A1, f1⟩ := A.setC c1
      refine ⟨_, A1, f1, ?_⟩
      rw [← gK A1 I.pc I1.wl]
      unfold Fb
      rw [Bg, A.c, Aa, if_neg (by simpa using s0), Dl, hc1]; rfl
    have fl : ∀ e i k H, At H i k c m → ∀ H7, At H7 i k c1 m → Fr H H7 i k → ∃ H', (Af (Bq H7 (Ptr.at i 0) e) fun H15 => Ce i 0 H15) = some (H', (N1 c1 e).State_) ∧ At H' i k (N1 c1 e) m ∧ Fr H H' i k := fun e i k H A H7 A7 f7 => by
      obtain ⟨H1, e1, A1, f1⟩ := Rr e H7 A7
      refine ⟨H1, ?_, A1, f7.trans f1⟩
      have e1 : Bq H7 (.at i 0) e = some H1 := e1
      rw [e1, Aa]
      unfold Ce
      rw [A1.c]; rfl
    obtain ⟨w, e, hw⟩ : ∃ w e, ftV m c.PC_ = (w, e) := ⟨_, _, rfl⟩
    have uw : u32 w := by have := oL I c.PC_; rw [hw] at this; exact this
    rw [hw] at pg ⊢
    by_cases e0 : e = 0
    · rw [Ay, if_neg (by simpa using e0)]
      unfold u32 at uw
      obtain ⟨sh, hs, hr, hd⟩ := eJ (op := w / 16777216) (by omega) (by omega)
      have h128 : sh ≠ -1 → w / 16777216 < 128 := by omega
      have sr : shR sh := by unfold shR; omega
      rw [sS uw.1 uw.2 hr sr h128]
      have pd := sR uw.1 uw.2 hs sr h128
      by_cases ok : Zv w sh
      · rw [if_pos ok] at pd ⊢
        rw [Ay, if_neg (by simp)]
        obtain ⟨q0, q1, q2, q3, q4, q5, q6, q7⟩ := eK (sh := sh) uw.1 uw.2
        have hd : _ := hd.resolve_left ok.1
        rw [← q0] at hd
        obtain ⟨f, ⟨c', m', r1, r2, r3, r4, r5⟩, hf⟩ := mV (m := m) I1 (by rw [l1]; exact hl) ⟨q1, q2⟩ ⟨q3, q4⟩ ⟨q5, q6⟩ (mR uw.1 sr ok.1) hd
        refine ⟨c', m', ?_, r2, r3, by rw [l1] at r4; exact r4, fun i k H A => ?_⟩
        · show Cc (Ck (toR c1) (toM m) (toI (dvI w sh))) _ = _
          rw [r1]; rfl
        · obtain ⟨H7, A7, f7, pe⟩ := pg i k H A
          obtain ⟨H1, e1, A1, f1⟩ := r5 i k H7 A7
          refine ⟨H1, ?_, A1, f7.trans f1⟩
          rw [pe, Ay, if_neg (by simpa using e0), pd, Ay, if_neg (by simp), q0, hs, Aa, hf, e1, Aa]
          unfold Ce
          rw [A1.c]; rfl
      · rw [if_neg ok] at pd ⊢
        rw [Ay, if_pos (by simp)]
        refine ⟨N1 c1 21, m, rfl, I1.fault _, rfl, by show c1.Out_.length ≤ _; rw [l1]; omega, fun i k H A => ?_⟩
        obtain ⟨H7, A7, f7, pe⟩ := pg i k H A
        rw [pe, Ay, if_neg (by simpa using e0), pd, Ay, if_pos (by simp)]
        exact fl _ i k H A H7 A7 f7
    · rw [Ay, if_pos (by simpa using e0)]
      refine ⟨N1 c1 e, m, rfl, I1.fault _, rfl, by show c1.Out_.length ≤ _; rw [l1]; omega, fun i k H A => ?_⟩
      obtain ⟨H7, A7, f7, pe⟩ := pg i k H A
      rw [pe, Ay, if_pos (by simpa using e0)]
      exact fl _ i k H A H7 A7 f7
  · rw [if_pos (show ((toR c).State_ != 0) = true by show (c.State_ != 0) = true; simpa using s0)]
    refine ⟨c, m, rfl, I, rfl, by omega, fun i k H A => ⟨H, ?_, A, Fr.refl _ _ _⟩⟩
    unfold Fb
    rw [Bg, A.c, Aa, if_pos (by simpa using s0)]
end
end Go.Proofs.Abs
namespace Go.Proofs.Abs
open Go
set_option linter.unusedVariables false
set_option linter.unusedSimpArgs false
theorem oO {c d : T_cpu_Cpu} (h : toR c = toR d) : c = d := by
  obtain ⟨R, a, b, e, f, g, k, l, o, ⟨s1, s2, s3, s4⟩, n⟩ := c
  obtain ⟨R', a', b', e', f', g', k', l', o', ⟨s1', s2', s3', s4'⟩, n'⟩ := d
  simp only [toR, T_ref04_Cpu.mk.injEq] at h
  obtain ⟨rfl, rfl, rfl, rfl, rfl, rfl, rfl, rfl, rfl, rfl, rfl, rfl, rfl, rfl⟩ := h
  rfl
theorem oP {m n : T_memory_Mem} (h : toM m = toM n) : m = n := by
  obtain ⟨⟨a, b, c, d, e⟩, w⟩ := m
  obtain ⟨⟨a', b', c', d', e'⟩, w'⟩ := n
  simp only [toM, T_ref03_Mem.mk.injEq, Vw] at h
  obtain ⟨h, rfl⟩ := h
  have g : ∀ q, (Ij [a, b, c, d, e] : Arr 5 Int).g q = (Ij [a', b', c', d', e'] : Arr 5 Int).g q := fun q => by rw [h]
  have g0 : a = a' := g 0
  have g1 : b = b' := g 1
  have g2 : c = c' := g 2
  have g3 : d = d' := g 3
  have g4 : e = e' := g 4
  rw [g0, g1, g2, g3, g4]
def Wk (q : T_cpu_Cpu × T_memory_Mem) (n : Nat) : Prop := Inv q.1 q.2 ∧ q.1.Out_.length + n ≤ 1001
structure StepP (q r : T_cpu_Cpu × T_memory_Mem) : Prop where
  ref : Fy (toR q.1) (toM q.2) = some (toR r.1, toM r.2)
  inv : Inv r.1 r.2
  lay : r.2.layout_ = q.2.layout_
  out : r.1.Out_.length ≤ q.1.Out_.length + 1
  run : ∀ i k H, At H i k q.1 q.2 → ∃ H', Fb H (.at i 0) (.at k 0) = some (H', r.1.State_) ∧ At H' i k r.1 r.2 ∧ Fr H H' i k
open Classical in
noncomputable def nx (q : T_cpu_Cpu × T_memory_Mem) : T_cpu_Cpu × T_memory_Mem := if h : ∃ r, StepP q r then h.choose else q
noncomputable def nxn : Nat → T_cpu_Cpu × T_memory_Mem → T_cpu_Cpu × T_memory_Mem
  | 0, q => q
  | n + 1, q => nxn n (nx q)
theorem eO {q : T_cpu_Cpu × T_memory_Mem} {n : Nat} (G : Wk q (n + 1)) : StepP q (nx q) ∧ Wk (nx q) n := by
  obtain ⟨c', m', h1, h2, h3, h4, h5⟩ := oN G.1 (by have := G.2; omega)
  have h : ∃ r, StepP q r := ⟨(c', m'), ⟨h1, h2, h3, h4, h5⟩⟩
  have e : nx q = h.choose := by unfold nx; rw [dif_pos h]
  have P := h.choose_spec
  rw [← e] at P
  exact ⟨P, P.inv, by have := P.out; have := G.2; omega⟩
theorem mW {q r : T_cpu_Cpu × T_memory_Mem} {n : Nat} (G : Wk q (n + 1)) (h : Fy (toR q.1) (toM q.2) = some (toR r.1, toM r.2)) : nx q = r := by
  have P := (eO G).1.ref
  rw [h] at P
  simp only [Option.some.injEq, Prod.mk.injEq] at P
  exact Prod.ext (oO P.1).symm (oP P.2).symm
theorem oQ {q : T_cpu_Cpu × T_memory_Mem} {n : Nat} (G : Wk q (n + 1)) (h : q.1.State_ ≠ 0) : nx q = q := by
  refine mW G ?_
  unfold Fy
  rw [if_pos (show ((toR q.1).State_ != 0) = true by show (q.1.State_ != 0) = true; simpa using h)]
theorem Zh {q : T_cpu_Cpu × T_memory_Mem} : ∀ {n : Nat}, Wk q n → q.1.State_ ≠ 0 → nxn n q = q
  | 0, G, h => rfl
  | n + 1, G, h => by
    show nxn n (nx q) = q
    rw [oQ G h]
    exact Zh ⟨G.1, by have := G.2; omega⟩ h
theorem eQ {i k : Nat} {p : Int} (hp : p ≤ 1000) : ∀ (n : Nat) (a : Int) (q : T_cpu_Cpu × T_memory_Mem) (H : Ah), 0 ≤ a → a + n = p → Wk q n → At H i k q.1 q.2 →
    ∃ H', Ik (fun (x : (Int × Ah)) => D8 p (.at i 0) (.at k 0) x.1 x.2) (a, H) = some H' ∧ At H' i k (nxn n q).1 (nxn n q).2 ∧ Fr H H' i k
  | 0, a, q, H, h0, h1, G, A => by
    refine ⟨H, Ob ?_, A, Fr.refl _ _ _⟩
    show D8 p (.at i 0) (.at k 0) a H = _
    unfold D8
    rw [if_neg (by simp; split <;> omega)]
  | n + 1, a, q, H, h0, h1, G, A => by
    obtain ⟨P, G1⟩ := eO G
    obtain ⟨H1, e1, A1, f1⟩ := P.run i k H A
    have e : D8 p (.at i 0) (.at k 0) a H = if ((nx q).1.State_ != 0) = true then some (Sum.inr H1) else some (Sum.inl (a + 1, H1)) := by
      unfold D8
      rw [if_pos (by simp; split <;> omega), e1, Ay, Av (a + 1) (by omega) (by omega)]
    by_cases s : (nx q).1.State_ = 0
    · rw [if_neg (by simpa using s)] at e
      obtain ⟨H2, e2, A2, f2⟩ := eQ hp n (a + 1) (nx q) H1 (by omega) (by omega) G1 A1
      exact ⟨H2, (Rn e).trans e2, A2, f1.trans f2⟩
    · rw [if_pos (by simpa using s)] at e
      refine ⟨H1, Ob e, ?_, f1⟩
      show At H1 i k (nxn n (nx q)).1 (nxn n (nx q)).2
      rw [Zh G1 s]; exact A1
theorem qA {i k : Nat} {H : Ah} {q : T_cpu_Cpu × T_memory_Mem} {n : Nat} (hn : n ≤ 1000) (G : Wk q n) (A : At H i k q.1 q.2) : ∃ H', Lm H (.at i 0) (.at k 0) n = some (H', (nxn n q).1.State_) ∧ At H' i k (nxn n q).1 (nxn n q).2 ∧ Fr H H' i k := by
  obtain ⟨H1, e1, A1, f1⟩ := eQ (p := n) (by omega) n 0 q H (by omega) (by omega) G A
  refine ⟨H1, ?_, A1, f1⟩
  unfold Lm
  rw [e1, Aa, Bg, A1.c]; rfl
/-! frames -/
theorem At.far {H H' : Ah} {i k i' k' : Nat} {c : T_cpu_Cpu} {m : T_memory_Mem} (A : At H i k c m) (f : Fr H H' i' k') (h1 : i ≠ i') (h2 : i ≠ k') (h3 : k ≠ i') (h4 : k ≠ k') : At H' i k c m :=
  ⟨P3 Qu (by rw [f i h1 h2]; exact Bb A.c), P3 M3 (by rw [f k h3 h4]; exact Bb A.m), A.ne⟩
/-! the same -/
theorem mX {H : Ah} {i k : Nat} {c : T_cpu_Cpu} {m : T_memory_Mem} (A : At H i k c m) (hl : c.Out_.length ≤ 1001) : Oz H (.at i 0) (toR c) = some true := by
  have loop : ∀ (n : Nat) (a : Int), 0 ≤ a → a + n = c.Out_.length → Ik (fun x : Int => Gw (toR c) c x) a = some (.inl ()) := fun n => by
    induction n with
    | zero =>
      intro a h0 h1
      refine Ob ?_
      unfold Gw
      rw [if_neg (by show ¬ decide (a < (c.Out_.length : Int)) = true; simp; omega)]
    | succ n ih =>
      intro a h0 h1
      have e : Gw (toR c) c a = some (.inl (a + 1)) := by
        unfold Gw
        rw [if_pos (by show decide (a < (c.Out_.length : Int)) = true; simp; omega), Qp h0 (by omega), Aa]
        show Af (gi c.Out_ a) _ = _
        rw [Qp h0 (by omega), Aa, if_neg (by simp [Qq]), Av (a + 1) (by omega) (by omega)]
      rw [Rn e]
      exact ih (a + 1) (by omega) (by omega)
  unfold Oz
  rw [Bg, A.c, Aa, if_neg (by simp [toR, Bx]), loop c.Out_.length 0 (by omega) (by omega), Aa, Ul]
theorem mY {H : Ah} {i k : Nat} {c : T_cpu_Cpu} {m : T_memory_Mem} (A : At H i k c m) (I : Inv c m) : O0 H (.at k 0) (toM m) = some true := by
  have wl := I.wl
  have sk := I.sk
  have loop : ∀ (n : Nat) (a : Int), 0 ≤ a → a + n = m.words_.length → Ik (fun x : Int => Fg (toM m) H (.at k 0) x) a = some (.inl ()) := fun n => by
    induction n with
    | zero =>
      intro a h0 h1
      refine Ob ?_
      unfold Fg
      rw [if_neg (by show ¬ decide (a < (m.words_.length : Int)) = true; simp; omega)]
    | succ n ih =>
      intro a h0 h1
      have e : Fg (toM m) H (.at k 0) a = some (.inl (a + 1)) := by
        unfold Fg
        rw [if_pos (by show decide (a < (m.words_.length : Int)) = true; simp; omega), Av (4 * a) (by omega) (by omega), Cj (4 * a) (by omega) (by omega), aX A (by unfold u32; omega) wl, aW (by omega) (by omega), Ay, if_neg (by simp)]
        show Af (Af (gi m.words_ a) _) _ = _
        have ha : a.toNat < m.words_.length := by omega
        rw [Qp h0 (by omega), Aa, Aa, if_neg (by rw [show 4 * a / 4 = a by omega]; simp [ha]), Av (a + 1) (by omega) (by omega)]
      rw [Rn e]
      exact ih (a + 1) (by omega) (by omega)
  unfold O0 Jx Ld
  rw [Bg, A.m, Aa, Aa, Aa, if_neg (by simp [toM, Vw, Pi])]
  show Af (Ik (fun x : Int => Fg (toM m) H (.at k 0) x) 0) _ = _
  rw [loop m.words_.length 0 (by omega) (by omega), Aa, Ul]
/-! memories, made and filled -/
theorem mZ {n : Int} (h0 : 0 ≤ n) (h1 : n ≤ 262144) : mks 4 n n (0 : Int) = some (List.replicate n.toNat 0) := by
  unfold mks
  rw [if_pos ⟨by omega, by omega, by have := Zd; omega, by omega⟩]
theorem iU {L : T_memory_Layout} (H : Ah) (hr : O2 L = true) : Lc H L = some (Dn H ⟨L, List.replicate (L.Stack_ / 4).toNat 0⟩, .at H.length 0, 0) ∧ Od (Vw L) = some (toM ⟨L, List.replicate (L.Stack_ / 4).toNat 0⟩) := by
  have R := rt5 hr
  have h0 : 0 ≤ L.Stack_ := by have := R.c0; have := R.c1; have := R.c2; have := R.c3; have := R.c4; omega
  have hm := R.m
  constructor
  · unfold Lc
    rw [gF, Aa, hr, if_neg (by simp), Il h0, Cj _ (by omega) (by omega), mZ (by omega) (by omega), Aa, Dl, Dl]
  · unfold Od
    have e : (Vw L).g 4 = L.Stack_ := rfl
    rw [e, Il h0, Cj _ (by omega) (by omega), mZ (by omega) (by omega), Aa]; rfl
theorem Zi {H : Ah} {k : Nat} {m : T_memory_Mem} {p : Int} {l : List Int} (hg : Cu H k 0 = some m) (hk : (m.words_.length : Int) * 4 = m.layout_.Stack_) (sk : m.layout_.Stack_ ≤ 1048576) (h0 : 0 ≤ p) (h4 : p % 4 = 0) (hl : p / 4 + l.length ≤ m.words_.length) :
    Cv H (.at k 0) p l = some (Dm H k 0 ⟨m.layout_, A6 m.words_ (p / 4).toNat l⟩, 0) ∧ Ke (toM m) p l = some (toM ⟨m.layout_, A6 m.words_ (p / 4).toNat l⟩, 0) := by
  constructor
  · unfold Cv
    rw [Ey h0, if_neg (by simpa using h4), Bg, hg, Aa, Il h0, Cj (p / 4) (by omega) (by omega), Cj (m.layout_.Stack_ - p) (by omega) (by omega), Y0 (m.layout_.Stack_ - p) (by omega) (by omega), Il (by omega), Y0 ((m.layout_.Stack_ - p) / 4) (by omega) (by omega), Y0 (l.length : Int) (by omega) (by omega), if_neg (by simp; omega)]
    have hcut : cut m.words_ (p / 4) m.words_.length = some (m.words_.drop (p / 4).toNat) := by
      unfold cut
      rw [if_pos ⟨by omega, by omega, by omega⟩]
      simp
    have hc : cpy m.words_ (p / 4).toNat l = A6 m.words_ (p / 4).toNat l := by
      unfold cpy
      rw [List.take_of_length_le (by omega)]
    rw [hcut, Aa, hc, Dl, Dl]
  · unfold Ke
    have e : (toM m).W_ = m.words_ := rfl
    rw [Ey h0, if_neg (by simpa using h4), e, Il h0, Cj (p / 4) (by omega) (by omega), Av (p / 4) (by omega) (by omega), Av (p / 4 + (l.length : Int)) (by omega) (by omega), if_neg (by simp; omega)]
    show Af (Dr ⟨Vw m.layout_, m.words_⟩ (p / 4) l) _ = _
    rw [aT (p / 4) l (by omega) hl (by omega), Aa]; rfl
theorem iV {H : Ah} {S : T_cpu_Setup} {l : List Int} (hl : l.length ≤ 100) : N7 H S l = some (Lj H ⟨Ij [0, 0, 0, 0, 0, 0, 0, 0, 0, 0, 0, 0, 0, 0, 0, 0], S.Entry_, 0, 0, 0, 0, 0, 0, [], S, l⟩, .at H.length 0) := by
  unfold N7
  rw [Uu (by simp; omega), Aa, Dl, Dl]; rfl
end Go.Proofs.Abs
namespace Go.Proofs.Abs
open Go Go.Proofs
set_option linter.unusedVariables false
set_option maxRecDepth 100000
set_option maxHeartbeats 0
def P8 (x : T_memory_Layout) : Prop := (fun n => (Lit.int .u32 n).wf = true) x.Code_ ∧ (fun n => (Lit.int .u32 n).wf = true) x.Tables_ ∧ (fun n => (Lit.int .u32 n).wf = true) x.Data_ ∧ (fun n => (Lit.int .u32 n).wf = true) x.Heap_ ∧ (fun n => (Lit.int .u32 n).wf = true) x.Stack_
theorem Ss : Ta Try.prog 92 Vz P8 := fun H enc w fuel cs x h => by
  obtain ⟨xs, n, _, _, hl, hxl, hp⟩ := DataW.trod_struct Try.underlying92 h
  have hl : cs.length = 5 := by rw [hl]; kernel_rfl
  obtain ⟨a0, w0, r0⟩ := Fa (i := 0) rfl hxl hp (Di Try.underlying35)
  obtain ⟨a1, w1, r1⟩ := Fa (i := 1) rfl hxl hp (Di Try.underlying35)
  obtain ⟨a2, w2, r2⟩ := Fa (i := 2) rfl hxl hp (Di Try.underlying35)
  obtain ⟨a3, w3, r3⟩ := Fa (i := 3) rfl hxl hp (Di Try.underlying35)
  obtain ⟨a4, w4, r4⟩ := Fa (i := 4) rfl hxl hp (Di Try.underlying35)
  exact ⟨⟨a0, a1, a2, a3, a4⟩, ⟨w0, w1, w2, w3, w4⟩, (Cm (o := 0) (z := 1) r0 (Cm (o := 1) (z := 1) r1 (Cm (o := 2) (z := 1) r2 (Cm (o := 3) (z := 1) r3 (Cm (o := 4) (z := 1) r4 (P6 (o := 5) (by rw [hl]; exact Nat.le_refl _)))))))⟩
def Uy (x : T_cpu_Setup) : Prop := (fun n => (Lit.int .u32 n).wf = true) x.Entry_ ∧ (fun n => (Lit.int .u32 n).wf = true) x.Vector_ ∧ (fun n => (Lit.int .u32 n).wf = true) x.Guard_ ∧ (fun n => (Lit.int .u32 n).wf = true) x.Limit_
theorem Wl : Ta Try.prog 94 eD Uy := fun H enc w fuel cs x h => by
  obtain ⟨xs, n, _, _, hl, hxl, hp⟩ := DataW.trod_struct Try.underlying94 h
  have hl : cs.length = 4 := by rw [hl]; kernel_rfl
  obtain ⟨a0, w0, r0⟩ := Fa (i := 0) rfl hxl hp (Di Try.underlying35)
  obtain ⟨a1, w1, r1⟩ := Fa (i := 1) rfl hxl hp (Di Try.underlying35)
  obtain ⟨a2, w2, r2⟩ := Fa (i := 2) rfl hxl hp (Di Try.underlying35)
  obtain ⟨a3, w3, r3⟩ := Fa (i := 3) rfl hxl hp (Di Try.underlying35)
  exact ⟨⟨a0, a1, a2, a3⟩, ⟨w0, w1, w2, w3⟩, (Cm (o := 0) (z := 1) r0 (Cm (o := 1) (z := 1) r1 (Cm (o := 2) (z := 1) r2 (Cm (o := 3) (z := 1) r3 (P6 (o := 4) (by rw [hl]; exact Nat.le_refl _))))))⟩
def Kx (x : T_law04_Case) : Prop := P8 x.L_ ∧ Uy x.S_ ∧ (fun xs => (∀ x, x ∈ xs → (fun n => (Lit.int .u32 n).wf = true) x) ∧ xs.length ≤ maxLen) x.Words_ ∧ (fun a => ∀ x, x ∈ a.l → (fun n => (Lit.int .u32 n).wf = true) x) x.R_ ∧ (fun xs => (∀ x, x ∈ xs → (fun n => (Lit.int .i32 n).wf = true) x) ∧ xs.length ≤ maxLen) x.Input_
theorem opens_law04_Case : Ta Try.prog 96 cD Kx := fun H enc w fuel cs x h => by
  obtain ⟨xs, n, _, _, hl, hxl, hp⟩ := DataW.trod_struct Try.underlying96 h
  have hl : cs.length = 27 := by rw [hl]; kernel_rfl
  obtain ⟨a0, w0, r0⟩ := Fa (i := 0) rfl hxl hp Ss
  obtain ⟨a1, w1, r1⟩ := Fa (i := 1) rfl hxl hp Wl
  obtain ⟨a2, w2, r2⟩ := Fa (i := 2) rfl hxl hp (Vv (z := 1) Try.underlying42 (by kernel_rfl) (by kernel_rfl) (fun _ => rfl) (Di Try.underlying35))
  obtain ⟨a3, w3, r3⟩ := Fa (i := 3) rfl hxl hp (kE (z := 1) Try.underlying46 (by kernel_rfl) (by kernel_rfl) (Di Try.underlying35))
  obtain ⟨a4, w4, r4⟩ := Fa (i := 4) rfl hxl hp (Vv (z := 1) Try.underlying48 (by kernel_rfl) (by kernel_rfl) (fun _ => rfl) (Di Try.underlying21))
  exact ⟨⟨a0, a1, a2, a3, a4⟩, ⟨w0, w1, w2, w3, w4⟩, (Cm (o := 0) (z := 5) r0 (Cm (o := 5) (z := 4) r1 (Cm (o := 9) (z := 1) r2 (Cm (o := 10) (z := 16) r3 (Cm (o := 26) (z := 1) r4 (P6 (o := 27) (by rw [hl]; exact Nat.le_refl _)))))))⟩
def Ru (x : T_instr_Instr) : Prop := (fun n => (Lit.int .i64 n).wf = true) x.Op_ ∧ (fun n => (Lit.int .i64 n).wf = true) x.A_ ∧ (fun n => (Lit.int .i64 n).wf = true) x.B_ ∧ (fun n => (Lit.int .i64 n).wf = true) x.C_ ∧ (fun n => (Lit.int .i64 n).wf = true) x.Imm_
theorem opens_instr_Instr : Ta Try.prog 98 Zp Ru := fun H enc w fuel cs x h => by
  obtain ⟨xs, n, _, _, hl, hxl, hp⟩ := DataW.trod_struct Try.underlying98 h
  have hl : cs.length = 5 := by rw [hl]; kernel_rfl
  obtain ⟨a0, w0, r0⟩ := Fa (i := 0) rfl hxl hp (Di Try.underlying3)
  obtain ⟨a1, w1, r1⟩ := Fa (i := 1) rfl hxl hp (Di Try.underlying3)
  obtain ⟨a2, w2, r2⟩ := Fa (i := 2) rfl hxl hp (Di Try.underlying3)
  obtain ⟨a3, w3, r3⟩ := Fa (i := 3) rfl hxl hp (Di Try.underlying3)
  obtain ⟨a4, w4, r4⟩ := Fa (i := 4) rfl hxl hp (Di Try.underlying3)
  exact ⟨⟨a0, a1, a2, a3, a4⟩, ⟨w0, w1, w2, w3, w4⟩, (Cm (o := 0) (z := 1) r0 (Cm (o := 1) (z := 1) r1 (Cm (o := 2) (z := 1) r2 (Cm (o := 3) (z := 1) r3 (Cm (o := 4) (z := 1) r4 (P6 (o := 5) (by rw [hl]; exact Nat.le_refl _)))))))⟩
def CpuOnesPure : Prop := ∀ (p0 : T_law04_Case) (p1 : T_instr_Instr), Kx p0 → Ru p1 → ∃ Hr, M2 [] p0 p1 = some (Hr, true)
end Go.Proofs.Abs
namespace Go.Proofs.Abs
open Go
set_option linter.unusedVariables false
set_option linter.unusedSimpArgs false
/-! the page's example -/
def awC (n : Int) : T_cpu_Cpu := ⟨Ij [0, n, 0, 0, 0, 0, 0, 0, 0, 0, 0, 0, 0, 0, 0, 0], 0, 0, 0, 0, 0, 0, 0, [], ⟨0, 0, 0, 0⟩, []⟩
def awL : T_memory_Layout := ⟨16, 16, 16, 16, 32⟩
def awM : T_memory_Mem := ⟨awL, A6 (List.replicate (32 / 4 : Int).toNat 0) (0 / 4 : Int).toNat [34603013, 16777216]⟩
theorem nA (H : Ah) : ∃ H', Nj H = some (H', true) := by
  obtain ⟨n1, _⟩ := iU (L := awL) H (by kernel_rfl)
  have e1 : Do ⟨2, 1, 0, 0, 5⟩ = some (34603013, 0) := by kernel_rfl
  have e2 : Do ⟨1, 0, 0, 0, 0⟩ = some (16777216, 0) := by kernel_rfl
  have d1 : Gq 34603013 = some (⟨2, 1, 0, 0, 5⟩, 0) := by rw [cK]; kernel_rfl
  have d2 : Gq 16777216 = some (⟨1, 0, 0, 0, 0⟩, 0) := by rw [cK]; kernel_rfl
  have g1 : Cu (Dn H ⟨awL, List.replicate (32 / 4 : Int).toNat 0⟩) H.length 0 = some ⟨awL, List.replicate (32 / 4 : Int).toNat 0⟩ := Wx M3 Wy H _
  obtain ⟨f1, _⟩ := Zi (l := [34603013, 16777216]) (p := 0) g1 (by decide) (by decide) (by decide) (by decide) (by decide)
  obtain ⟨H2, hH2⟩ : ∃ H2, H2 = Dm (Dn H ⟨awL, List.replicate (32 / 4 : Int).toNat 0⟩) H.length 0 awM := ⟨_, rfl⟩
  have g2 : Cu H2 H.length 0 = some awM := by rw [hH2]; exact cC M3 Wy g1 _
  have len : H2.length = H.length + 1 := by rw [hH2]; simp [Dm, Dn, dY]
  have A : At (Lj H2 (awC 0)) H2.length H.length (awC 0) awM := ⟨Wx Qu cL H2 _, R8 M3 g2, by omega⟩
  have G : Wk (awC 0, awM) 9 := by
    refine ⟨⟨?_, ⟨by decide, by decide⟩, ⟨by decide, by decide⟩, ⟨by decide, by decide⟩, ⟨by decide, by decide⟩, by decide, ⟨⟨by decide, by decide⟩, ⟨by decide, by decide⟩, ⟨by decide, by decide⟩⟩, ?_, by decide, by decide⟩, by decide⟩
    · have z : ∀ q, q < 16 → (awC 0).R_.g q = 0 := by decide
      intro q hq
      show u32 ((awC 0).R_.g q)
      rw [z q hq]; exact ⟨by decide, by decide⟩
    · have z : ∀ x ∈ awM.words_, 0 ≤ x ∧ x < 4294967296 := by decide
      exact z
  obtain ⟨q1, hq1⟩ : ∃ q1 : T_cpu_Cpu × T_memory_Mem, q1 = (⟨(awC 5).R_, 4, 0, 0, 0, 0, 1, 0, [], ⟨0, 0, 0, 0⟩, []⟩, awM) := ⟨_, rfl⟩
  obtain ⟨q2, hq2⟩ : ∃ q2 : T_cpu_Cpu × T_memory_Mem, q2 = (⟨(awC 5).R_, 4, 0, 0, 1, 0, 2, 0, [], ⟨0, 0, 0, 0⟩, []⟩, awM) := ⟨_, rfl⟩
  have s1 : nx (awC 0, awM) = q1 := mW G (by
    unfold Fy
    rw [if_neg (by decide), show Gn (toM awM) (toR (awC 0)).PC_ = some (34603013, 0) by kernel_rfl, Ay, if_neg (by decide), d1, Ay, if_neg (by decide), hq1]
    kernel_rfl)
  have G1 : Wk q1 8 := by rw [← s1]; exact (eO G).2
  have s2 : nx q1 = q2 := mW G1 (by
    rw [hq1]
    unfold Fy
    rw [if_neg (by decide)]
    show Cc (Gn (toM awM) 4) _ = _
    rw [show Gn (toM awM) 4 = some (16777216, 0) by kernel_rfl, Ay, if_neg (by decide), d2, Ay, if_neg (by decide), hq2]
    kernel_rfl)
  have G2 : Wk q2 7 := by rw [← s2]; exact (eO G1).2
  have s3 : nxn 9 (awC 0, awM) = q2 := by
    show nxn 7 (nx (nx (awC 0, awM))) = q2
    rw [s1, s2]
    exact Zh G2 (by rw [hq2]; decide)
  obtain ⟨H3, r1, A3, _⟩ := qA (n := 9) (by omega) G A
  rw [s3, hq2] at A3
  rw [s3, hq2] at r1
  refine ⟨H3, ?_⟩
  unfold Nj
  show Vt (Lc H awL) _ = _
  rw [n1, Ou, if_neg (by simp [Um]), e1, Ay, e2, Ay]
  show Cc (Cv (Dn H ⟨awL, List.replicate (32 / 4 : Int).toNat 0⟩) _ _ _) _ = _
  rw [f1, Ay]
  show Cc (N7 (Dm (Dn H ⟨awL, List.replicate (32 / 4 : Int).toNat 0⟩) H.length 0 awM) _ _) _ = _
  rw [← hH2, iV (by decide), Ay, if_pos (by simp [Um])]
  show Cc (Cc (Lm (Lj H2 (awC 0)) (.at H2.length 0) (.at H.length 0) ((9 : Nat) : Int)) _) _ = _
  rw [r1, Ay, if_pos (by rfl), Bg, A3.c]; rfl
/-! begun -/
theorem qB {p : T_law04_Case} (h : Kx p) : Mx p = some (O2 p.L_ && (decide (p.L_.Stack_ ≤ 4096) && (decide ((p.Words_.length : Int) ≤ 1024) && decide ((p.Input_.length : Int) ≤ 100)))) := by
  unfold Mx
  rw [aR, Aa, eH _ (cB.1 h.1.1).1, Aa]
structure Few (p : T_law04_Case) : Prop where
  wf : Kx p
  r : O2 p.L_ = true
  s : p.L_.Stack_ ≤ 4096
  w : p.Words_.length ≤ 1024
  i : p.Input_.length ≤ 100
theorem kI {p : T_law04_Case} (h : Kx p) : Mx p = some false ∨ Mx p = some true ∧ Few p := by
  rw [qB h]
  by_cases c : O2 p.L_ = true ∧ p.L_.Stack_ ≤ 4096 ∧ (p.Words_.length : Int) ≤ 1024 ∧ (p.Input_.length : Int) ≤ 100
  · obtain ⟨c1, c2, c3, c4⟩ := c
    exact .inr ⟨by simp [c1, c2]; omega, ⟨h, c1, c2, by omega, by omega⟩⟩
  · refine .inl ?_
    congr 1
    simp only [Bool.and_eq_false_iff, decide_eq_false_iff_not]
    by_cases c1 : O2 p.L_ = true
    · simp only [c1, true_and] at c
      omega
    · exact .inl (by simpa using c1)
def Zw (p : T_law04_Case) : T_cpu_Cpu := ⟨p.R_, p.S_.Entry_, 0, 0, 0, 0, 0, 0, [], p.S_, p.Input_⟩
def Su (p : T_law04_Case) : T_memory_Mem := ⟨p.L_, A6 (List.replicate (p.L_.Stack_ / 4).toNat 0) (0 / 4 : Int).toNat (p.Words_.take (min (p.L_.Stack_ / 4).toNat p.Words_.length))⟩
theorem aY {xs ys : List Int} {k : Nat} {x : Int} (h : x ∈ A6 xs k ys) : x ∈ xs ∨ x ∈ ys := by
  unfold A6 at h
  simp only [List.mem_append] at h
  rcases h with (h | h) | h
  · exact .inl (List.mem_of_mem_take h)
  · exact .inr h
  · exact .inl (List.mem_of_mem_drop h)
theorem nB {p : T_law04_Case} (F : Few p) : Wk (Zw p, Su p) 1000 ∧ (Su p).words_.length = (p.L_.Stack_ / 4).toNat := by
  have R := rt5 F.r
  have h0 : 0 ≤ p.L_.Stack_ := by have := R.c0; have := R.c1; have := R.c2; have := R.c3; have := R.c4; omega
  have d4 := R.d4
  have sk := F.s
  obtain ⟨hL, hS, hW, hR, hI⟩ := F.wf
  have lt : ∀ n : Int, (Lit.int .u32 n).wf = true → u32 n := fun n h => by have := cB.1 h; unfold u32; omega
  have wl : (Su p).words_.length = (p.L_.Stack_ / 4).toNat := by
    show (A6 _ _ _).length = _
    rw [U8 (by simp; omega)]; simp
  have z : u32 0 := ⟨by decide, by decide⟩
  refine ⟨⟨⟨?_, lt _ hS.1, z, z, ⟨by show (0 : Int) ≤ 0; decide, by show (0 : Int) ≤ _; omega⟩, F.i, ⟨lt _ hS.2.1, lt _ hS.2.2.1, lt _ hS.2.2.2⟩, ?_, ?_, sk⟩, by show 0 + 1000 ≤ 1001; omega⟩, wl⟩
  · intro q hq
    have hl := p.R_.h
    show u32 (p.R_.g q)
    have e : p.R_.g q = p.R_.l[q]'(by omega) := by
      unfold Arr.g
      rw [List.getElem?_eq_getElem (by omega)]; rfl
    rw [e]; exact lt _ (hR _ (List.getElem_mem _))
  · intro x hx
    rcases aY hx with h | h
    · rw [List.eq_of_mem_replicate h]; exact ⟨by decide, by decide⟩
    · exact lt _ (hW.1 _ (List.mem_of_mem_take h))
  · show ((Su p).words_.length : Int) * 4 = p.L_.Stack_
    rw [wl]; omega
theorem nC {p : T_law04_Case} (F : Few p) (H : Ah) : ∃ H', Nk H p = some (H', .at (H.length + 1) 0, .at H.length 0, toR (Zw p), toM (Su p)) ∧ At H' (H.length + 1) H.length (Zw p) (Su p) ∧ H.length + 2 ≤ H'.length ∧ ∀ i k c m, At H i k c m → At H' i k c m := by
  obtain ⟨n1, n2⟩ := iU (L := p.L_) H F.r
  have R := rt5 F.r
  have h0 : 0 ≤ p.L_.Stack_ := by have := R.c0; have := R.c1; have := R.c2; have := R.c3; have := R.c4; omega
  have d4 := R.d4
  have sk := F.s
  have wk := F.w
  obtain ⟨m0, hm0⟩ : ∃ m0 : T_memory_Mem, m0 = ⟨p.L_, List.replicate (p.L_.Stack_ / 4).toNat 0⟩ := ⟨_, rfl⟩
  have l0 : m0.words_.length = (p.L_.Stack_ / 4).toNat := by rw [hm0]; simp
  have y0 : m0.layout_ = p.L_ := by rw [hm0]
  rw [← hm0] at n1 n2
  have g1 := Wx M3 Wy H m0
  obtain ⟨H1, hH1⟩ : ∃ H1, H1 = Dn H m0 := ⟨_, rfl⟩
  have len : H1.length = H.length + 1 := by rw [hH1]; simp [Dn]
  have g1 : Cu H1 H.length 0 = some m0 := by rw [hH1]; exact g1
  obtain ⟨c0, hc0⟩ : ∃ c0 : T_cpu_Cpu, c0 = ⟨Ij [0, 0, 0, 0, 0, 0, 0, 0, 0, 0, 0, 0, 0, 0, 0, 0], p.S_.Entry_, 0, 0, 0, 0, 0, 0, [], p.S_, p.Input_⟩ := ⟨_, rfl⟩
  have n3 := iV (H := H1) (S := p.S_) F.i
  rw [← hc0, len] at n3
  obtain ⟨H2, hH2⟩ : ∃ H2, H2 = Lj H1 c0 := ⟨_, rfl⟩
  rw [← hH2] at n3
  have A : At H2 (H.length + 1) H.length c0 m0 := by rw [hH2, ← len]; exact ⟨Wx Qu cL H1 _, R8 M3 g1, by omega⟩
  obtain ⟨f1, f2⟩ := Zi (l := p.Words_.take (min (p.L_.Stack_ / 4).toNat p.Words_.length)) (p := 0) A.m (by rw [l0, y0]; omega) (by rw [y0]; omega) (by decide) (by decide) (by rw [l0]; simp; omega)
  have e1 : (⟨m0.layout_, A6 m0.words_ (0 / 4 : Int).toNat (p.Words_.take (min (p.L_.Stack_ / 4).toNat p.Words_.length))⟩ : T_memory_Mem) = Su p := by rw [hm0]; rfl
  rw [e1] at f1 f2
  obtain ⟨A1, r1⟩ := A.setM (Su p)
  obtain ⟨A2, r2⟩ := A1.setC (Zw p)
  refine ⟨_, ?_, A2, ?_, fun i k c m B => ?_⟩
  · unfold Nk
    rw [aR, Aa]
    show Af (Od (Vw p.L_)) _ = _
    rw [n2, Aa, n1, Ou, ← hH1, n3, Ay, if_neg (by simp [Um])]
    have hc : cut p.Words_ 0 (if ((toM m0).W_.length : Int) < (p.Words_.length : Int) then ((toM m0).W_.length : Int) else (p.Words_.length : Int)) = some (p.Words_.take (min (p.L_.Stack_ / 4).toNat p.Words_.length)) := by
      have : (toM m0).W_.length = (p.L_.Stack_ / 4).toNat := l0
      rw [this]
      have e : (if (((p.L_.Stack_ / 4).toNat : Nat) : Int) < (p.Words_.length : Int) then (((p.L_.Stack_ / 4).toNat : Nat) : Int) else (p.Words_.length : Int)) = ((min (p.L_.Stack_ / 4).toNat p.Words_.length : Nat) : Int) := by split <;> omega
      rw [e]
      unfold cut
      rw [if_pos ⟨by omega, by omega, by omega⟩]
      simp
    rw [hc, Aa, f1, Ay, f2, Ay, Bg, A1.c, Aa, Dl, hc0]; rfl
  · simp [Bl, Dm, dY, hH2, Lj, len]
  · have hi := mO B.c
    have hk := mO B.m
    have B2 : At H2 i k c m := by
      rw [hH2, hH1]
      exact ⟨R8 Qu (R8 Qu B.c), R8 M3 (R8 M3 B.m), B.ne⟩
    exact (B2.far r1 (by omega) (by omega) (by omega) (by omega)).far r2 (by omega) (by omega) (by omega) (by omega)
end Go.Proofs.Abs
namespace Go.Proofs.Abs
open Go
set_option linter.unusedVariables false
set_option linter.unusedSimpArgs false
theorem aZ (op : Int) : ∃ s, Dw op = some s := by
  by_cases h : 0 ≤ op ∧ op < 256
  · obtain ⟨s, _, hs, _⟩ := eJ h.1 h.2
    exact ⟨s, hs⟩
  · have e : ∀ k : Int, 0 ≤ k → k < 256 → (op == k) = false := fun k h0 h1 => by simp; omega
    refine ⟨-1, ?_⟩
    unfold Dw
    rw [if_neg (by simp; omega)]
    simp only [Hx, Hw, Hv, Hu, Hp, Ho, Hq, Hs, Ht, F3, F4, F5, F6, F7]
    simp [e]
theorem oR {c : Prop} [Decidable c] {p q : Option Int} (hp : ∃ e, p = some e) (hq : ∃ e, q = some e) : ∃ e, (if c then p else q) = some e := by
  split
  · exact hp
  · exact hq
theorem kJ (x : T_ref02_Instr) : ∃ e, Ic x = some e := by
  obtain ⟨s, hs⟩ := aZ x.Op_
  unfold Ic Ln
  rw [hs, Aa]
  simp only [Fw, Fp, Fu, Fs, Ft, Fv, Ou]
  repeat' first
    | exact ⟨_, rfl⟩
    | apply oR
theorem gL (x : T_ref02_Instr) : ∃ v e, Dq x = some (v, e) ∧ u32 v := by
  obtain ⟨e, he⟩ := kJ x
  obtain ⟨s, hs⟩ := aZ x.Op_
  unfold Dq
  rw [he, Aa, hs, Aa]
  have z : u32 0 := ⟨by decide, by decide⟩
  split
  · exact ⟨_, _, rfl, z⟩
  · split
    · exact ⟨_, _, rfl, Dd _⟩
    · exact ⟨_, _, rfl, Dd _⟩
theorem CpuOnes_holds : CpuOnesPure := fun p x h hx => by
  obtain ⟨H1, e1⟩ := nA []
  obtain ⟨v, e, he, uv⟩ := gL ⟨x.Op_, x.A_, x.B_, x.C_, x.Imm_⟩
  unfold M2
  rw [e1, Ay, if_neg (by simp), he, Ay]
  rcases kI h with hf | ⟨hf, F⟩
  · rw [hf, Aa, if_pos (by rfl)]; exact ⟨_, rfl⟩
  · rw [hf, Aa]
    by_cases hc : e = 0 ∧ 4 ≤ p.L_.Code_
    · obtain ⟨ec, c4⟩ := hc
      rw [if_neg (by simp [ec]; omega)]
      have R := rt5 F.r
      have c0 := R.c0; have c1 := R.c1; have c2 := R.c2; have c3 := R.c3; have c4' := R.c4
      have d0 := R.d0; have d4 := R.d4
      have s4 := F.s
      obtain ⟨n0, n1⟩ := cB.1 h.2.1.1
      obtain ⟨r, hr⟩ : ∃ r, r = p.S_.Entry_ % p.L_.Code_ := ⟨_, rfl⟩
      have hm : Rm .u32 p.S_.Entry_ p.L_.Code_ = some r := by
        unfold Rm
        rw [if_neg (by omega), Ey n0, ← hr]
      have r0 : 0 ≤ r ∧ r < p.L_.Code_ := by
        rw [hr]; exact ⟨Int.emod_nonneg _ (by omega), Int.emod_lt_of_pos _ (by omega)⟩
      obtain ⟨a, ha⟩ : ∃ a, a = IntKind.wrap .u32 (IntKind.wrap .u32 (Int.tdiv r 4) * 4) := ⟨_, rfl⟩
      have ea : a = r / 4 * 4 := by rw [ha, Il r0.1, Cj (r / 4) (by omega) (by omega), Cj _ (by omega) (by omega)]
      rw [hm, Aa, ← ha]
      obtain ⟨q, hq⟩ : ∃ q : T_law04_Case, q = ⟨p.L_, ⟨a, p.S_.Vector_, p.S_.Guard_, p.S_.Limit_⟩, p.Words_, p.R_, p.Input_⟩ := ⟨_, rfl⟩
      have Fq : Few q := by
        rw [hq]
        obtain ⟨hL, hS, hW, hR, hI⟩ := h
        exact ⟨⟨hL, ⟨cB.2 (by show 0 ≤ a ∧ a ≤ 4294967295; omega), hS.2⟩, hW, hR, hI⟩, F.r, F.s, F.w, F.i⟩
      have lq : q.L_ = p.L_ := by rw [hq]
      obtain ⟨H2, e2, A2, _, _⟩ := nC Fq H1
      obtain ⟨G, wl⟩ := nB Fq
      rw [lq] at wl
      have ll : (Su q).layout_ = p.L_ := lq
      obtain ⟨f1, f2⟩ := Zi (l := [v]) (p := a) A2.m (by rw [wl, ll]; omega) (by rw [ll]; omega) (by omega) (by omega) (by rw [wl]; simp; omega)
      obtain ⟨A3, _⟩ := A2.setM ⟨(Su q).layout_, A6 (Su q).words_ (a / 4).toNat [v]⟩
      obtain ⟨m, hm'⟩ : ∃ m : T_memory_Mem, m = ⟨(Su q).layout_, A6 (Su q).words_ (a / 4).toNat [v]⟩ := ⟨_, rfl⟩
      rw [← hm'] at f1 f2 A3
      have G3 : Wk (Zw q, m) 1 := by
        refine ⟨⟨G.1.regs, G.1.pc, G.1.epc, G.1.ca, G.1.tk, G.1.il, G.1.st, ?_, ?_, ?_⟩, by have := G.2; show (Zw q).Out_.length + 1 ≤ 1001; have : (Zw q, Su q).1.Out_.length = (Zw q).Out_.length := rfl; omega⟩
        · rw [hm']
          intro y hy
          rcases aY hy with h | h
          · exact G.1.ws y h
          · rw [List.mem_singleton.1 h]; exact uv
        · rw [hm']
          show ((A6 (Su q).words_ (a / 4).toNat [v]).length : Int) * 4 = (Su q).layout_.Stack_
          rw [U8 (by rw [wl]; simp; omega), wl, ll]; omega
        · rw [hm']; exact G.1.sk
      obtain ⟨P, G4⟩ := eO G3
      obtain ⟨H4, e4, A4, _⟩ := P.run _ _ _ A3
      rw [← hq, e2, gB, Um, if_neg (by simp), f1, Ay, f2, Ay]
      show ∃ Hr, Cc (Fy (toR (Zw q, m).1) (toM (Zw q, m).2)) _ = _
      rw [P.ref, Ay]
      rw [e4, Ay, if_pos (by simp [toR]), mX A4 (by have := G4.2; omega), Aa, if_pos rfl, mY A4 G4.1]
      exact ⟨H4, rfl⟩
    · rw [if_pos (by simp; omega)]; exact ⟨_, rfl⟩
end Go.Proofs.Abs
