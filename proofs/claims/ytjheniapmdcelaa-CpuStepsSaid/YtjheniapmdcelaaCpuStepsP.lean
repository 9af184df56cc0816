import Derived.Test.YtjheniapmdcelaaCpuStepsF3
set_option linter.unusedVariables false
set_option linter.unusedSimpArgs false
set_option linter.unusedSectionVars false
namespace Go.Proofs.Abs
open Go
set_option linter.unusedVariables false
set_option linter.unusedSimpArgs false
theorem R6 (a : Nat) (h : a < 4294967296) : (BitVec.ofInt 32 (a : Int)).toNat = a := by
  rw [BitVec.toNat_ofInt]
  have : ((a : Int) % ((2 ^ 32 : Nat) : Int)) = (a : Int) := Int.emod_eq_of_lt (by omega) (by simp; omega)
  rw [this]; simp
theorem pR (a b : Nat) (ha : a < 4294967296) (hb : b < 4294967296) : A6 .or .u32 (a : Int) (b : Int) = ((a ||| b : Nat) : Int) := by
  have h : a ||| b < 4294967296 := Nat.or_lt_two_pow (n := 32) ha hb
  show IntKind.u32.wrap ((BitVec.ofInt 32 (a : Int) ||| BitVec.ofInt 32 (b : Int)).toNat : Int) = _
  rw [BitVec.toNat_or, R6 a ha, R6 b hb, Cl _ (by omega) (by omega)]
theorem oF (a b : Nat) (ha : a < 4294967296) (hb : b < 4294967296) : A6 .and .u32 (a : Int) (b : Int) = ((a &&& b : Nat) : Int) := by
  have h : a &&& b < 4294967296 := Nat.lt_of_le_of_lt Nat.and_le_left ha
  show IntKind.u32.wrap ((BitVec.ofInt 32 (a : Int) &&& BitVec.ofInt 32 (b : Int)).toNat : Int) = _
  rw [BitVec.toNat_and, R6 a ha, R6 b hb, Cl _ (by omega) (by omega)]
theorem R7 (k : Nat) (x b : Int) (h0 : 0 ≤ x) (hb0 : 0 ≤ b) (hb : b < 2 ^ k) (h : x * 2 ^ k + b < 4294967296) : A6 .or .u32 (x * 2 ^ k) b = x * 2 ^ k + b := by
  obtain ⟨m, rfl⟩ : ∃ m : Nat, x = m := ⟨x.toNat, by omega⟩
  obtain ⟨n, rfl⟩ : ∃ n : Nat, b = n := ⟨b.toNat, by omega⟩
  have hn : n < 2 ^ k := by exact_mod_cast hb
  have e0 : ((m : Int) * 2 ^ k + n) = ((m * 2 ^ k + n : Nat) : Int) := by simp
  rw [e0] at h
  have hs : m * 2 ^ k + n < 4294967296 := Int.ofNat_lt.1 h
  clear h e0
  have e : ((m : Int) * 2 ^ k) = ((m * 2 ^ k : Nat) : Int) := by simp
  rw [e, pR _ _ (by omega) (by omega), ← Nat.shiftLeft_eq, ← Nat.shiftLeft_add_eq_or_of_lt hn]
  simp
theorem cA (k : Nat) (a : Int) (h0 : 0 ≤ a) (h : a < 4294967296) (hk : k ≤ 31) : A6 .and .u32 a ((2 ^ k - 1 : Nat) : Int) = a % 2 ^ k := by
  obtain ⟨n, rfl⟩ : ∃ n : Nat, a = n := ⟨a.toNat, by omega⟩
  have p : 2 ^ k ≤ 2 ^ 31 := Nat.pow_le_pow_right (by decide) hk
  rw [oF _ _ (by omega) (by omega), Nat.and_two_pow_sub_one_eq_mod]
  simp
theorem mN (a : Int) (h0 : 0 ≤ a) (h : a < 4294967296) : A6 .and .u32 a 65535 = a % 65536 := cA 16 a h0 h (by decide)
theorem pS (a : Int) (h0 : 0 ≤ a) (h : a < 4294967296) : A6 .and .u32 a 16777215 = a % 16777216 := cA 24 a h0 h (by decide)
theorem Jc (n : Int) : IntKind.u32.wrap n = n % 4294967296 := by
  simp only [IntKind.wrap, IntKind.bits, IntKind.signed]
  simp
theorem oG (op a b m c : Int) (h1 : 0 ≤ op) (h2 : op < 128) (h3 : 0 ≤ a) (h4 : a < 16) (h5 : 0 ≤ b) (h6 : b < 16) (h7 : 0 ≤ c) (h8 : c < 16) (h9 : m = 0 ∨ c = 0) :
    A6 .or .u32 (A6 .or .u32 (A6 .or .u32 (A6 .or .u32 (IntKind.wrap .u32 ((IntKind.wrap .u32 op) * 2 ^ 24)) (IntKind.wrap .u32 ((IntKind.wrap .u32 a) * 2 ^ 20))) (IntKind.wrap .u32 ((IntKind.wrap .u32 b) * 2 ^ 16))) (A6 .and .u32 (IntKind.wrap .u32 m) 65535)) (IntKind.wrap .u32 c)
      = op * 16777216 + a * 1048576 + b * 65536 + m % 65536 + c := by
  rw [Cl op h1 (by omega), Cl a h3 (by omega), Cl b h5 (by omega), Cl c h7 (by omega), Cl (op * 2 ^ 24) (by omega) (by omega), Cl (a * 2 ^ 20) (by omega) (by omega), Cl (b * 2 ^ 16) (by omega) (by omega),
    mN _ (by rw [Jc]; omega) (by rw [Jc]; omega), Jc]
  rw [R7 24 op (a * 2 ^ 20) h1 (by omega) (by omega) (by omega)]
  have e1 : op * 2 ^ 24 + a * 2 ^ 20 = (op * 16 + a) * 2 ^ 20 := by omega
  rw [e1, R7 20 (op * 16 + a) (b * 2 ^ 16) (by omega) (by omega) (by omega) (by omega)]
  have e2 : (op * 16 + a) * 2 ^ 20 + b * 2 ^ 16 = (op * 256 + a * 16 + b) * 2 ^ 16 := by omega
  rw [e2, R7 16 (op * 256 + a * 16 + b) (m % 4294967296 % 65536) (by omega) (by omega) (by omega) (by omega)]
  rcases h9 with rfl | rfl
  · have e3 : (op * 256 + a * 16 + b) * 2 ^ 16 + 0 % 4294967296 % 65536 = (op * 4096 + a * 256 + b * 16 + 0) * 2 ^ 12 := by omega
    have e4 : (op * 4096 + a * 256 + b * 16 + 0) * 2 ^ 12 = ((op * 4096 + a * 256 + b * 16 + 0) * 2 ^ 8) * 2 ^ 4 := by omega
    rw [e3, e4, R7 4 _ c (by omega) h7 (by omega) (by omega)]
    omega
  · have e3 : (op * 256 + a * 16 + b) * 2 ^ 16 + m % 4294967296 % 65536 = ((op * 256 + a * 16 + b) * 2 ^ 16 + m % 4294967296 % 65536) * 2 ^ 0 := by omega
    rw [e3, R7 0 _ 0 (by omega) (by omega) (by omega) (by omega)]
    omega
end Go.Proofs.Abs
namespace Go.Proofs.Abs
open Go
set_option linter.unusedVariables false
set_option linter.unusedSimpArgs false
theorem fZ (n : Nat) (hn : n ≤ 32) : Nk (n : Int) = some (2 ^ n) := by
  have go : ∀ (k : Nat) (a j : Int), j + k = n → 0 ≤ j → 0 ≤ a → a * 2 ^ k ≤ 4294967296 → Gg (fun (x : Int × Int) => Dn (n : Int) x.1 x.2) (a, j) = some (a * 2 ^ k) := by
    intro k
    induction k with
    | zero =>
      intro a j h1 h2 h3 h4
      obtain rfl : j = n := by omega
      refine Mp ?_
      show Dn (n : Int) a n = _
      unfold Dn; rw [if_neg (by simp)]; simp
    | succ k ih =>
      intro a j h1 h2 h3 h4
      have e : a * 2 ^ (k + 1) = a * 2 * 2 ^ k := by rw [Int.pow_succ, Int.mul_comm (2 ^ k) 2, ← Int.mul_assoc]
      have p : (1 : Int) ≤ 2 ^ k := Int.pow_pos (by decide)
      have le : a * 2 ≤ 4294967296 := by
        rw [e] at h4
        have := Int.mul_le_mul_of_nonneg_left p (show 0 ≤ a * 2 by omega)
        omega
      rw [Py (f := fun (x : Int × Int) => Dn (n : Int) x.1 x.2) (s' := (a * 2, j + 1))]
      · rw [ih (a * 2) (j + 1) (by omega) (by omega) (by omega) (by rw [← e]; exact h4), e]
      · show Dn (n : Int) a j = _
        unfold Dn
        rw [if_pos (by simp; omega), Au _ (by omega) (by omega), Au _ (by omega) (by omega)]
  unfold Nk
  have p : (2 : Int) ^ n ≤ 4294967296 := by
    have : (2 : Nat) ^ n ≤ 2 ^ 32 := Nat.pow_le_pow_right (by decide) hn
    have e : ((2 : Int) ^ n) = ((2 ^ n : Nat) : Int) := by simp
    rw [e]; exact Int.ofNat_le.2 this
  have := go n 1 0 (by omega) (by omega) (by omega) (by rw [Int.one_mul]; exact p)
  rw [this]; simp [Aa]
noncomputable def Uq (w k : Int) : Option Int := Ag (Uc .i64 (IntKind.wrap .i64 w) (2 ^ k.toNat)) fun v4 =>
  if (decide (v4 ≥ (IntKind.wrap .i64 (Int.tdiv (2 ^ k.toNat) 2)))) = true then (D0 (IntKind.wrap .i64 (v4 - 2 ^ k.toNat)))
  else (D0 v4)
theorem iK (w : Int) (k : Nat) (h0 : 1 ≤ k) (hk : k ≤ 32) : J9 w k = Uq w k := by
  unfold J9
  rw [if_neg (by simp; omega)]
  have : (if (32 : Int) < k then (32 : Int) else k) = k := by rw [if_neg (by omega)]
  rw [this, fZ k hk, Aa]; rfl
theorem Pk (w : Int) : J9 w 16 = Uq w 16 := iK w 16 (by decide) (by decide)
theorem Pl (w : Int) : J9 w 24 = Uq w 24 := iK w 24 (by decide) (by decide)
noncomputable def Qr (p0 : Int) (j11 : T_ref02_Instr) : Option (T_ref02_Instr × Int) :=
  Ch (F8 j11) fun r12 r13 =>
  if ((r13 != 0) || (r12 != p0)) = true then (some ((T_ref02_Instr.mk 0 0 0 0 0), 21))
  else (some (j11, 0))
noncomputable def R8 (p0 : Int) (j21 : T_ref02_Instr) : Option (T_ref02_Instr × Int) :=
  Qr p0 j21
noncomputable def R9 (p0 : Int) (j23 : T_ref02_Instr) : Option (T_ref02_Instr × Int) :=
  R8 p0 j23
noncomputable def Sa (p0 : Int) (j9 : T_ref02_Instr) (r1 : Int) (j20 : Bool) : Option (T_ref02_Instr × Int) :=
  if j20 = true then (R8 p0 (T_ref02_Instr.mk j9.Op_ j9.A_ j9.B_ j9.C_ (IntKind.wrap .i64 (Int.tmod p0 65536))))
  else (if (r1 == 7) = true then (Ag (Uq p0 24) fun r25 =>
  R9 p0 (T_ref02_Instr.mk j9.Op_ j9.A_ j9.B_ j9.C_ (IntKind.wrap .i64 r25)))
  else (R9 p0 j9))
noncomputable def Sb (p0 : Int) (j9 : T_ref02_Instr) (r1 : Int) (j28 : Bool) : Option (T_ref02_Instr × Int) :=
  Sa p0 j9 r1 j28
noncomputable def Sc (p0 : Int) (j9 : T_ref02_Instr) (r1 : Int) (j10 : Bool) : Option (T_ref02_Instr × Int) :=
  if j10 = true then (Ag (Uq p0 16) fun r18 =>
  Qr p0 (T_ref02_Instr.mk j9.Op_ j9.A_ j9.B_ j9.C_ (IntKind.wrap .i64 r18)))
  else (if (r1 == 2) = true then (Sa p0 j9 r1 (r1 == 2))
  else (if (r1 == 4) = true then (Sb p0 j9 r1 (r1 == 4))
  else (Sb p0 j9 r1 (r1 == 8))))
noncomputable def Sd (r1 : Int) (p0 : Int) (j9 : T_ref02_Instr) : Option (T_ref02_Instr × Int) :=
  if (r1 == 1) = true then (Sc p0 j9 r1 (r1 == 1))
  else (Sc p0 j9 r1 (r1 == 3))
noncomputable def Se (r5 : Bool) (r1 : Int) (p0 : Int) (j8 : T_ref02_Instr) : Option (T_ref02_Instr × Int) :=
  if r5 = true then (Sd r1 p0 (T_ref02_Instr.mk j8.Op_ j8.A_ j8.B_ (IntKind.wrap .i64 (Int.tmod p0 16)) j8.Imm_))
  else (Sd r1 p0 j8)
noncomputable def Sf (r4 : Bool) (r5 : Bool) (r1 : Int) (p0 : Int) (j7 : T_ref02_Instr) : Option (T_ref02_Instr × Int) :=
  if r4 = true then (Se r5 r1 p0 (T_ref02_Instr.mk j7.Op_ j7.A_ (IntKind.wrap .i64 (Int.tmod (IntKind.wrap .u32 (Int.tdiv p0 65536)) 16)) j7.C_ j7.Imm_))
  else (Se r5 r1 p0 j7)
noncomputable def pT  (p0 : Int) : Option (T_ref02_Instr × Int) :=
  Ag (Fa (IntKind.wrap .i64 (IntKind.wrap .u32 (Int.tdiv p0 16777216)))) fun r1 =>
  Vs (Mt r1) fun r3 r4 r5 =>
  if r3 = true then (Sf r4 r5 r1 p0 (T_ref02_Instr.mk (IntKind.wrap .i64 (IntKind.wrap .u32 (Int.tdiv p0 16777216))) (IntKind.wrap .i64 (Int.tmod (IntKind.wrap .u32 (Int.tdiv p0 1048576)) 16)) 0 0 0))
  else (Sf r4 r5 r1 p0 (T_ref02_Instr.mk (IntKind.wrap .i64 (IntKind.wrap .u32 (Int.tdiv p0 16777216))) 0 0 0 0))
theorem Hl (p0 : Int) (j11 : T_ref02_Instr) : Ej p0 j11 = Qr p0 j11 := by
  unfold Ej Qr
  simp only [Pk, Pl]
theorem Ka (p0 : Int) (j21 : T_ref02_Instr) : Ek p0 j21 = R8 p0 j21 := by
  unfold Ek R8
  simp only [Pk, Pl, Hl]
theorem Ky (p0 : Int) (j23 : T_ref02_Instr) : El p0 j23 = R9 p0 j23 := by
  unfold El R9
  simp only [Pk, Pl, Hl, Ka]
theorem Mw (p0 : Int) (j9 : T_ref02_Instr) (r1 : Int) (j20 : Bool) : Em p0 j9 r1 j20 = Sa p0 j9 r1 j20 := by
  unfold Em Sa
  simp only [Pk, Pl, Hl, Ka, Ky]
theorem Oz (p0 : Int) (j9 : T_ref02_Instr) (r1 : Int) (j28 : Bool) : Eo p0 j9 r1 j28 = Sb p0 j9 r1 j28 := by
  unfold Eo Sb
  simp only [Pk, Pl, Hl, Ka, Ky, Mw]
theorem Qs (p0 : Int) (j9 : T_ref02_Instr) (r1 : Int) (j10 : Bool) : Ep p0 j9 r1 j10 = Sc p0 j9 r1 j10 := by
  unfold Ep Sc
  simp only [Pk, Pl, Hl, Ka, Ky, Mw, Oz]
theorem Ts (r1 : Int) (p0 : Int) (j9 : T_ref02_Instr) : Eq r1 p0 j9 = Sd r1 p0 j9 := by
  unfold Eq Sd
  simp only [Pk, Pl, Hl, Ka, Ky, Mw, Oz, Qs]
theorem Zb (r5 : Bool) (r1 : Int) (p0 : Int) (j8 : T_ref02_Instr) : Er r5 r1 p0 j8 = Se r5 r1 p0 j8 := by
  unfold Er Se
  simp only [Pk, Pl, Hl, Ka, Ky, Mw, Oz, Qs, Ts]
theorem gA (r4 : Bool) (r5 : Bool) (r1 : Int) (p0 : Int) (j7 : T_ref02_Instr) : Es r4 r5 r1 p0 j7 = Sf r4 r5 r1 p0 j7 := by
  unfold Es Sf
  simp only [Pk, Pl, Hl, Ka, Ky, Mw, Oz, Qs, Ts, Zb]
theorem cB (p0 : Int) : F9 p0 = pT p0 := by
  unfold F9 pT
  simp only [Pk, Pl, Hl, Ka, Ky, Mw, Oz, Qs, Ts, Zb, gA]
end Go.Proofs.Abs
namespace Go.Proofs.Abs
open Go
set_option linter.unusedVariables false
set_option linter.unusedSimpArgs false
theorem M1 (x y : T_memory_Mem) (h : Dz x = Dz y) : x = y := by
  obtain ⟨⟨a, b, c, d, e⟩, ws⟩ := x
  obtain ⟨⟨a', b', c', d', e'⟩, ws'⟩ := y
  simp only [Dz, List.cons.injEq, Prod.mk.injEq, AV.int.injEq, AV.sl.injEq, true_and, and_true] at h
  obtain ⟨rfl, rfl, rfl, rfl, rfl, h⟩ := h
  rw [Wu mK _ _ h]
theorem Ww (x : T_memory_Mem) : (Dz x).length = 6 := rfl
def Bad (last e : Int) : Bool := (decide (e < last)) || (((Int.tmod e 4) != 0) || (decide (e > 1048576)))
def O0 (L : T_memory_Layout) : Bool := !(Bad 0 L.Code_ || Bad L.Code_ L.Tables_ || Bad L.Tables_ L.Data_ || Bad L.Data_ L.Heap_ || Bad L.Heap_ L.Stack_)
theorem ga5 (a b c d e : Int) : ga (Ho [a, b, c, d, e] : Arr 5 Int) 0 = some a ∧ ga (Ho [a, b, c, d, e] : Arr 5 Int) 1 = some b ∧ ga (Ho [a, b, c, d, e] : Arr 5 Int) 2 = some c ∧ ga (Ho [a, b, c, d, e] : Arr 5 Int) 3 = some d ∧ ga (Ho [a, b, c, d, e] : Arr 5 Int) 4 = some e := ⟨rfl, rfl, rfl, rfl, rfl⟩
theorem gB (L : T_memory_Layout) : Ls L = some (O0 L) := by
  obtain ⟨a, b, c, d, e⟩ := L
  obtain ⟨g0, g1, g2, g3, g4⟩ := ga5 a b c d e
  have step : ∀ (last i v : Int), ga (Ho [a, b, c, d, e] : Arr 5 Int) i = some v → 0 ≤ i → i < 5 → Fq (Ho [a, b, c, d, e] : Arr 5 Int) last i = if Bad last v = true then some (Sum.inr (Sum.inr ())) else some (Sum.inl (v, i + 1)) := by
    intro last i v hv h0 h5
    unfold Fq
    rw [if_pos (by simpa using h5), hv, Aa, Au (i + 1) (by omega) (by omega)]
    rfl
  have fin : ∀ last : Int, Fq (Ho [a, b, c, d, e] : Arr 5 Int) last 5 = some (Sum.inr (Sum.inl ())) := fun _ => rfl
  unfold Ls Hk O0
  simp only [Aa]
  rw [Fw, step 0 0 a g0 (by omega) (by omega)]
  cases h0 : Bad 0 a with
  | true => simp [Aa, Kp]
  | false =>
    simp only [Bool.false_eq_true, if_false, Int.reduceAdd]
    rw [Fw, step a 1 b g1 (by omega) (by omega)]
    cases h1 : Bad a b with
    | true => simp [Aa, Kp]
    | false =>
      simp only [Bool.false_eq_true, if_false, Int.reduceAdd]
      rw [Fw, step b 2 c g2 (by omega) (by omega)]
      cases h2 : Bad b c with
      | true => simp [Aa, Kp]
      | false =>
        simp only [Bool.false_eq_true, if_false, Int.reduceAdd]
        rw [Fw, step c 3 d g3 (by omega) (by omega)]
        cases h3 : Bad c d with
        | true => simp [Aa, Kp]
        | false =>
          simp only [Bool.false_eq_true, if_false, Int.reduceAdd]
          rw [Fw, step d 4 e g4 (by omega) (by omega)]
          cases h4 : Bad d e with
          | true => simp [Aa, Kp]
          | false =>
            simp only [Bool.false_eq_true, if_false, Int.reduceAdd]
            rw [Fw]
            have := fin e
            simp [this, Aa, Rm]
def oY (L : T_memory_Layout) : Arr 5 Int := (Ho [L.Code_, L.Tables_, L.Data_, L.Heap_, L.Stack_] : Arr 5 Int)
theorem aP (L : T_memory_Layout) : Kx L = some (oY L) := rfl
theorem dX (L : T_memory_Layout) (h0 : 0 ≤ L.Code_) : Lh (oY L) = some (O0 L) := by
  obtain ⟨a, b, c, d, e⟩ := L
  obtain ⟨g0, g1, g2, g3, g4⟩ := ga5 a b c d e
  have first : D5 (Ho [a, b, c, d, e] : Arr 5 Int) 0 = if Bad 0 a = true then some (Sum.inr (Sum.inr ())) else some (Sum.inl (0 + 1)) := by
    unfold D5
    rw [if_pos (by decide)]
    simp only [g0, Aa, Au (0 + 1) (by omega) (by omega)]
    have e1 : (decide (a < 0)) = false := by simpa using h0
    simp only [Bad, e1, Bool.false_or]
    cases h1 : (Int.tmod a 4 != 0) with
    | true => simp [Aa]
    | false =>
      cases h2 : decide (a > 1048576) with
      | true => simp [Aa, h2]
      | false => simp [Aa, h2]
  have step : ∀ (last i v : Int), ga (Ho [a, b, c, d, e] : Arr 5 Int) i = some v → ga (Ho [a, b, c, d, e] : Arr 5 Int) (i - 1) = some last → 0 < i → i < 5 → D5 (Ho [a, b, c, d, e] : Arr 5 Int) i = if Bad last v = true then some (Sum.inr (Sum.inr ())) else some (Sum.inl (i + 1)) := by
    intro last i v hv hl h0 h5
    unfold D5
    rw [if_pos (by simpa using h5)]
    simp only [hv, Aa, Au (i + 1) (by omega) (by omega), Au (i - 1) (by omega) (by omega), hl]
    have e1 : (decide (i > 0)) = true := by simpa using h0
    simp only [e1, if_true, Bad]
    rcases Aw (Int.tmod v 4 != 0) with h1 | h1 <;> rcases Aw (decide (v > 1048576)) with h2 | h2 <;> rcases Aw (decide (v < last)) with h3 | h3 <;> simp only [h1, h2, h3, if_true, if_false, Aa, Bool.false_eq_true, Bool.or_true, Bool.true_or, Bool.or_false, Bool.false_or]
  have fin : D5 (Ho [a, b, c, d, e] : Arr 5 Int) 5 = some (Sum.inr (Sum.inl ())) := rfl
  show Lh (Ho [a, b, c, d, e] : Arr 5 Int) = _
  unfold Lh O0
  rw [Fw, first]
  cases h0 : Bad 0 a with
  | true => simp [Aa, Kp]
  | false =>
    simp only [Bool.false_eq_true, if_false, Int.reduceAdd]
    rw [Fw, step a 1 b g1 g0 (by omega) (by omega)]
    cases h1 : Bad a b with
    | true => simp [Aa, Kp]
    | false =>
      simp only [Bool.false_eq_true, if_false, Int.reduceAdd]
      rw [Fw, step b 2 c g2 g1 (by omega) (by omega)]
      cases h2 : Bad b c with
      | true => simp [Aa, Kp]
      | false =>
        simp only [Bool.false_eq_true, if_false, Int.reduceAdd]
        rw [Fw, step c 3 d g3 g2 (by omega) (by omega)]
        cases h3 : Bad c d with
        | true => simp [Aa, Kp]
        | false =>
          simp only [Bool.false_eq_true, if_false, Int.reduceAdd]
          rw [Fw, step d 4 e g4 g3 (by omega) (by omega)]
          cases h4 : Bad d e with
          | true => simp [Aa, Kp]
          | false =>
            simp only [Bool.false_eq_true, if_false, Int.reduceAdd]
            rw [Fw]
            have := fin
            simp [this, Aa, Rm]
structure Rt5 (L : T_memory_Layout) : Prop where
  c0 : 0 ≤ L.Code_
  c1 : L.Code_ ≤ L.Tables_
  c2 : L.Tables_ ≤ L.Data_
  c3 : L.Data_ ≤ L.Heap_
  c4 : L.Heap_ ≤ L.Stack_
  m : L.Stack_ ≤ 1048576
  d0 : L.Code_ % 4 = 0
  d1 : L.Tables_ % 4 = 0
  d4 : L.Stack_ % 4 = 0
theorem rt5 {L : T_memory_Layout} (h : O0 L = true) : Rt5 L := by
  simp only [O0, Bad, Bool.not_eq_true', Bool.or_eq_false_iff, decide_eq_false_iff_not, bne_eq_false_iff_eq] at h
  obtain ⟨⟨⟨⟨⟨a1, a2, a3⟩, b1, b2, b3⟩, c1, c2, c3⟩, d1, d2, d3⟩, e1, e2, e3⟩ := h
  rw [Fh (by omega)] at a2 b2 e2
  exact ⟨by omega, by omega, by omega, by omega, by omega, by omega, a2, b2, e2⟩
end Go.Proofs.Abs
namespace Go.Proofs.Abs
open Go
set_option linter.unusedVariables false
set_option linter.unusedSimpArgs false
theorem Bl (x : Int) : IntKind.i32.wrap x = (x + 2147483648) % 4294967296 - 2147483648 := by
  simp only [IntKind.wrap, IntKind.bits, IntKind.signed]
  simp
  omega
theorem Lz (x : Int) (h1 : -2147483648 ≤ x) (h2 : x ≤ 2147483647) : IntKind.i32.wrap x = x := by rw [Bl]; omega
theorem Kg {x : Int} (h0 : -4611686018427387904 < x) (h1 : x < 4611686018427387904) : Fb x = some (IntKind.i32.wrap x) := by
  unfold Fb Ha G9
  obtain ⟨y, hy⟩ : ∃ y, y = Int.tmod x 4294967296 := ⟨_, rfl⟩
  have b : -4294967296 < y ∧ y < 4294967296 ∧ (y - x) % 4294967296 = 0 := by
    by_cases c : 0 ≤ x
    · rw [Fh c] at hy; omega
    · have : Int.tmod (-x) 4294967296 = (-x) % 4294967296 := Fh (by omega)
      rw [Int.neg_tmod] at this; omega
  rw [← hy]
  by_cases c : y < 0
  · rw [if_pos (by simpa using c), Au _ (by omega) (by omega)]
    by_cases d : y + 4294967296 ≥ 2147483648
    · rw [if_pos (by simpa using d), Au _ (by omega) (by omega)]
      congr 1; rw [Bl, Bl]; omega
    · rw [if_neg (by simpa using d)]
      congr 1; rw [Bl, Bl]; omega
  · rw [if_neg (by simpa using c)]
    by_cases d : y ≥ 2147483648
    · rw [if_pos (by simpa using d), Au _ (by omega) (by omega)]
      congr 1; rw [Bl, Bl]; omega
    · rw [if_neg (by simpa using d)]
      congr 1; rw [Bl, Bl]; omega
def qT (n s : Int) : Bool := decide ((s = -1 ∨ s = 0 ∧ n = 1 ∨ s = 1 ∧ (n = 2 ∨ n = 20 ∨ n = 21) ∨ s = 2 ∧ (n = 3 ∨ n = 30 ∨ n = 33) ∨ s = 3 ∧ (n = 5 ∨ n = 18 ∨ n = 19) ∨ s = 4 ∧ (n = 4 ∨ n = 26 ∨ n = 34) ∨ s = 5 ∧ 6 ≤ n ∧ n ≤ 17 ∨ s = 6 ∧ (n = 24 ∨ n = 25 ∨ n = 27 ∨ n = 29 ∨ n = 31 ∨ n = 32) ∨ s = 7 ∧ (n = 22 ∨ n = 23) ∨ s = 8 ∧ n = 28))
theorem jY : ((List.range 256).all fun n => match D3 (n : Int) with
    | some s => qT n s && decide (Fa (n : Int) = some s)
    | none => false) = true := by kernel_rfl
theorem mO {op : Int} (h0 : 0 ≤ op) (h1 : op < 256) : ∃ s, D3 op = some s ∧ Fa op = some s ∧ (s = -1 ∨ s = 0 ∧ op = 1 ∨ s = 1 ∧ (op = 2 ∨ op = 20 ∨ op = 21) ∨ s = 2 ∧ (op = 3 ∨ op = 30 ∨ op = 33) ∨ s = 3 ∧ (op = 5 ∨ op = 18 ∨ op = 19) ∨ s = 4 ∧ (op = 4 ∨ op = 26 ∨ op = 34) ∨ s = 5 ∧ 6 ≤ op ∧ op ≤ 17 ∨ s = 6 ∧ (op = 24 ∨ op = 25 ∨ op = 27 ∨ op = 29 ∨ op = 31 ∨ op = 32) ∨ s = 7 ∧ (op = 22 ∨ op = 23) ∨ s = 8 ∧ op = 28) := by
  obtain ⟨n, rfl⟩ : ∃ n : Nat, op = n := ⟨op.toNat, by omega⟩
  have := List.all_eq_true.1 jY n (List.mem_range.2 (by omega))
  split at this
  · rename_i s hs
    simp only [Bool.and_eq_true, qT, decide_eq_true_eq] at this
    exact ⟨s, hs, this.2, this.1⟩
  · cases this
def s16 (w : Int) : Int := (w % 65536 + 32768) % 65536 - 32768
def s24 (w : Int) : Int := (w % 16777216 + 8388608) % 16777216 - 8388608
def imP (sh n : Int) : Prop := (sh = 1 ∨ sh = 3) ∧ -32768 ≤ n ∧ n < 32768 ∨ (sh = 2 ∨ sh = 4 ∨ sh = 8) ∧ 0 ≤ n ∧ n < 65536 ∨ sh = 7 ∧ -8388608 ≤ n ∧ n < 8388608 ∨ (sh = 0 ∨ sh = 5 ∨ sh = 6) ∧ n = 0
def ckP (sh a b c : Int) : Prop := (sh = 0 ∨ sh = 7 ∨ sh = 8) ∧ a = 0 ∧ b = 0 ∧ c = 0 ∨ (sh = 1 ∨ sh = 2 ∨ sh = 6) ∧ b = 0 ∧ c = 0 ∨ (sh = 3 ∨ sh = 4) ∧ c = 0 ∨ sh = 5
instance (sh a b c : Int) : Decidable (ckP sh a b c) := by unfold ckP; infer_instance
def woP (sh op a b c n : Int) : Int := if sh = 7 then op * 16777216 + n % 16777216 else op * 16777216 + a * 1048576 + b * 65536 + n % 65536 + c
theorem oZ {n : Int} (k : Int) (p : Int) (hk : k = 16 ∧ p = 32768 ∨ k = 24 ∧ p = 8388608) : Oc n k = some (decide (-p ≤ n ∧ n < p)) := by
  rcases hk with ⟨rfl, rfl⟩ | ⟨rfl, rfl⟩
  all_goals
    unfold Oc
    rw [if_neg (by decide)]
    have s1 : ∀ q : Int, Qy .i64 (-1) (IntKind.wrap .i64 q) = Qy .i64 (-1) (IntKind.wrap .i64 q) := fun _ => rfl
  · have s1 : Qy .i64 (-1) (IntKind.wrap .i64 ((if (40 : Int) < 16 then (40 : Int) else 16) - 1)) = some (-32768) := by kernel_rfl
    have s2 : Qy .i64 1 (IntKind.wrap .i64 ((if (40 : Int) < 16 then (40 : Int) else 16) - 1)) = some 32768 := by kernel_rfl
    rw [s1, Aa, s2]
    by_cases c : n ≥ -32768
    · rw [if_pos (by simpa using c), Aa, Aa]
      by_cases d : n < 32768
      · rw [decide_eq_true d, decide_eq_true ⟨c, d⟩]
      · rw [decide_eq_false d, decide_eq_false (fun h => d h.2)]
    · rw [if_neg (by simpa using c), Aa, decide_eq_false (fun h => c h.1)]
  · have s1 : Qy .i64 (-1) (IntKind.wrap .i64 ((if (40 : Int) < 24 then (40 : Int) else 24) - 1)) = some (-8388608) := by kernel_rfl
    have s2 : Qy .i64 1 (IntKind.wrap .i64 ((if (40 : Int) < 24 then (40 : Int) else 24) - 1)) = some 8388608 := by kernel_rfl
    rw [s1, Aa, s2]
    by_cases c : n ≥ -8388608
    · rw [if_pos (by simpa using c), Aa, Aa]
      by_cases d : n < 8388608
      · rw [decide_eq_true d, decide_eq_true ⟨c, d⟩]
      · rw [decide_eq_false d, decide_eq_false (fun h => d h.2)]
    · rw [if_neg (by simpa using c), Aa, decide_eq_false (fun h => c h.1)]
theorem mP {n : Int} : Nd n 16 = some (decide (0 ≤ n ∧ n < 65536)) := by
  unfold Nd
  have s2 : Qy .i64 1 (if (40 : Int) < 16 then (40 : Int) else 16) = some 65536 := by kernel_rfl
  rw [if_pos (by decide)]
  by_cases c : n ≥ 0
  · rw [if_pos (by simpa using c), s2, Aa, Aa]
    by_cases d : n < 65536
    · rw [decide_eq_true d, decide_eq_true ⟨c, d⟩]
    · rw [decide_eq_false d, decide_eq_false (fun h => d h.2)]
  · rw [if_neg (by simpa using c), Aa, decide_eq_false (fun h => c h.1)]
theorem gC {a : Int} (h0 : 0 ≤ a) (h1 : a < 16) : Mq a = some true := by
  unfold Mq; simp [h0, h1]
theorem pU {op n : Int} (h0 : 0 ≤ op) (h1 : op < 128) : A6 .or .u32 (IntKind.wrap .u32 (IntKind.wrap .u32 op * 2 ^ 24)) (A6 .and .u32 (IntKind.wrap .u32 n) 16777215) = op * 16777216 + n % 16777216 := by
  rw [Cl op h0 (by omega), Cl (op * 2 ^ 24) (by omega) (by omega), pS _ (by rw [Jc]; omega) (by rw [Jc]; omega), Jc, R7 24 op _ h0 (by omega) (by omega) (by omega)]
  omega
theorem sO {op a b c n sh : Int} (hs : D3 op = some sh) (hi : imP sh n) (h0 : 0 ≤ op) (h1 : op < 128) (a0 : 0 ≤ a) (a1 : a < 16) (b0 : 0 ≤ b) (b1 : b < 16) (c0 : 0 ≤ c) (c1 : c < 16) (hc : c = 0 ∨ n = 0) :
    Dl ⟨op, a, b, c, n⟩ = some (if ckP sh a b c then (woP sh op a b c n, 0) else (0, 20)) := by
  have sr : 0 ≤ sh ∧ sh ≤ 8 := by rcases hi with h | h | h | h <;> omega
  have im : P3 ⟨op, a, b, c, n⟩ sh = some true := by
    unfold P3 Ke Kd Kc
    have f16 := oZ (n := n) 16 32768 (.inl ⟨rfl, rfl⟩)
    have f24 := oZ (n := n) 24 8388608 (.inr ⟨rfl, rfl⟩)
    rcases hi with ⟨rfl | rfl, h⟩ | ⟨rfl | rfl | rfl, h⟩ | ⟨rfl, h⟩ | ⟨rfl | rfl | rfl, h⟩ <;> simp [f16, f24, mP, h, Aa] <;> omega
  have ck : Ld ⟨op, a, b, c, n⟩ = some (if ckP sh a b c then 0 else 20) := by
    unfold Ld
    rw [hs, Aa, if_neg (by simp; omega), gC a0 a1, Aa, if_neg (by decide), gC b0 b1, Aa, if_neg (by decide), gC c0 c1, Aa, if_neg (by decide), im, Aa, Aa, if_neg (by decide)]
    unfold Gw Gv Gu Gt Gs Gr Gq ckP
    have : sh = 0 ∨ sh = 1 ∨ sh = 2 ∨ sh = 3 ∨ sh = 4 ∨ sh = 5 ∨ sh = 6 ∨ sh = 7 ∨ sh = 8 := by omega
    rcases this with rfl | rfl | rfl | rfl | rfl | rfl | rfl | rfl | rfl <;> simp <;> grind
  unfold Dl
  rw [ck, Aa]
  by_cases k : ckP sh a b c
  · rw [if_pos k, if_pos k, if_neg (by decide), hs, Aa]
    unfold woP
    by_cases s7 : sh = 7
    · rw [if_pos (by simpa using s7), if_pos s7, pU h0 h1]
    · rw [if_neg (by simpa using s7), if_neg s7, oG op a b n c h0 h1 a0 a1 b0 b1 c0 c1 (by rcases hc with h | h <;> simp [h])]
  · rw [if_neg k, if_neg k, if_pos (by decide)]
theorem sP {op a b c n sh : Int} (hs : Fa op = some sh) (hi : imP sh n) (h0 : 0 ≤ op) (h1 : op < 128) (a0 : 0 ≤ a) (a1 : a < 16) (b0 : 0 ≤ b) (b1 : b < 16) (c0 : 0 ≤ c) (c1 : c < 16) (hk : ckP sh a b c) :
    F8 ⟨op, a, b, c, n⟩ = some (woP sh op a b c n, 0) := by
  have sr : 0 ≤ sh ∧ sh ≤ 8 := by rcases hi with h | h | h | h <;> omega
  have ck : Li ⟨op, a, b, c, n⟩ = some 0 := by
    unfold Li
    rw [hs, Aa, if_neg (by simp; omega)]
    unfold Mt Hg Hf He Hd Hc Hb
    unfold ckP at hk
    have : sh = 0 ∨ sh = 1 ∨ sh = 2 ∨ sh = 3 ∨ sh = 4 ∨ sh = 5 ∨ sh = 6 ∨ sh = 7 ∨ sh = 8 := by omega
    unfold imP at hi
    rcases this with rfl | rfl | rfl | rfl | rfl | rfl | rfl | rfl | rfl <;> simp [Qn] at hk hi ⊢ <;> grind
  have nb : -8388608 ≤ n ∧ n < 8388608 := by rcases hi with h | h | h | h <;> omega
  unfold F8
  rw [ck, Aa, if_neg (by decide), hs, Aa]
  unfold woP
  by_cases s7 : sh = 7
  · rw [if_pos (by simpa using s7), if_pos s7, Au (op * 16777216) (by omega) (by omega), Au (n + 16777216) (by omega) (by omega), Fh (by omega), Au _ (by omega) (by omega), Cl _ (by omega) (by omega)]
    congr 2; omega
  · have nb : -32768 ≤ n ∧ n < 65536 := by rcases hi with h | h | h | h <;> omega
    have m : Int.tmod (IntKind.wrap .i64 (n + 65536)) 65536 = n % 65536 := by rw [Au _ (by omega) (by omega), Fh (by omega)]; omega
    rw [if_neg (by simpa using s7), if_neg s7]
    simp only [m]
    rw [Au (op * 16777216) (by omega) (by omega), Au (a * 1048576) (by omega) (by omega), Au (b * 65536) (by omega) (by omega), Au (op * 16777216 + a * 1048576) (by omega) (by omega), Au (op * 16777216 + a * 1048576 + b * 65536) (by omega) (by omega), Au (op * 16777216 + a * 1048576 + b * 65536 + n % 65536) (by omega) (by omega), Au _ (by omega) (by omega), Cl _ (by omega) (by omega)]
end Go.Proofs.Abs
namespace Go.Proofs.Abs
open Go
set_option linter.unusedVariables false
set_option linter.unusedSimpArgs false
def dvI (w sh : Int) : T_instr_Instr := if sh = 7 then ⟨w / 16777216, 0, 0, 0, s24 w⟩ else
  ⟨w / 16777216, w / 1048576 % 16, w / 65536 % 16, if sh = 5 then w % 16 else 0, if sh = 1 ∨ sh = 3 then s16 w else if sh = 2 ∨ sh = 4 ∨ sh = 8 then w % 65536 else 0⟩
def Zt (w sh : Int) : Prop := sh ≠ -1 ∧ ckP sh (dvI w sh).A_ (dvI w sh).B_ (dvI w sh).C_ ∧ woP sh (dvI w sh).Op_ (dvI w sh).A_ (dvI w sh).B_ (dvI w sh).C_ (dvI w sh).Imm_ = w
instance (w sh : Int) : Decidable (Zt w sh) := by unfold Zt; infer_instance
def shR (sh : Int) : Prop := sh = -1 ∨ sh = 0 ∨ sh = 1 ∨ sh = 2 ∨ sh = 3 ∨ sh = 4 ∨ sh = 5 ∨ sh = 6 ∨ sh = 7 ∨ sh = 8
theorem mQ {w sh : Int} (w0 : 0 ≤ w) (h : shR sh) (hn : sh ≠ -1) : imP sh (dvI w sh).Imm_ := by
  unfold imP dvI s16 s24
  rcases h with rfl | rfl | rfl | rfl | rfl | rfl | rfl | rfl | rfl | rfl <;> simp <;> omega
theorem dY {w sh : Int} (w0 : 0 ≤ w) (w1 : w < 4294967296) : (dvI w sh).Op_ = w / 16777216 ∧ 0 ≤ (dvI w sh).A_ ∧ (dvI w sh).A_ < 16 ∧ 0 ≤ (dvI w sh).B_ ∧ (dvI w sh).B_ < 16 ∧ 0 ≤ (dvI w sh).C_ ∧ (dvI w sh).C_ < 16 ∧ ((dvI w sh).C_ = 0 ∨ (dvI w sh).Imm_ = 0) := by
  unfold dvI
  split
  · refine ⟨rfl, ?_⟩; simp
  · refine ⟨rfl, ?_, ?_, ?_, ?_, ?_, ?_, ?_⟩ <;> simp only [] <;> grind
section
variable {w : Int}
theorem qU (w0 : 0 ≤ w) (w1 : w < 4294967296) : Lf w 16 = some (s16 w) ∧ Lf w 24 = some (s24 w) := by
  have g : ∀ k : Int, k = 16 ∨ k = 8 → Ag (Qy .u32 w k) (fun v2 => Ag (dP .i32 (IntKind.wrap .i32 v2) k) fun v4 => some v4) = some (if k = 16 then s16 w else s24 w) := by
    rintro k (rfl | rfl)
    · have e1 : Qy .u32 w 16 = some (IntKind.wrap .u32 (w * 65536)) := by unfold Qy; rfl
      have e2 : ∀ v : Int, dP .i32 v 16 = some (v / 65536) := fun v => by
        unfold dP
        rw [if_neg (by decide)]
        congr 1
        show Int.fdiv v 65536 = _
        rw [Int.fdiv_eq_ediv_of_nonneg _ (by decide)]
      rw [e1, Aa, e2, Aa, if_pos rfl, Jc, Bl]
      unfold s16
      congr 1; omega
    · have e1 : Qy .u32 w 8 = some (IntKind.wrap .u32 (w * 256)) := by unfold Qy; rfl
      have e2 : ∀ v : Int, dP .i32 v 8 = some (v / 256) := fun v => by
        unfold dP
        rw [if_neg (by decide)]
        congr 1
        show Int.fdiv v 256 = _
        rw [Int.fdiv_eq_ediv_of_nonneg _ (by decide)]
      rw [e1, Aa, e2, Aa, if_neg (by decide), Jc, Bl]
      unfold s24
      congr 1; omega
  have k1 : IntKind.wrap .i64 (32 - (if (32 : Int) < 16 then 32 else 16)) = 16 := by kernel_rfl
  have k2 : IntKind.wrap .i64 (32 - (if (32 : Int) < 24 then 32 else 24)) = 8 := by kernel_rfl
  constructor
  · unfold Lf
    rw [if_neg (by decide), k1]
    exact g 16 (.inl rfl)
  · unfold Lf
    rw [if_neg (by decide), k2]
    exact g 8 (.inr rfl)
theorem sQ {sh : Int} (w0 : 0 ≤ w) (w1 : w < 4294967296) (hs : D3 (w / 16777216) = some sh) (hr : shR sh) (h128 : sh ≠ -1 → w / 16777216 < 128) : Kf w = some (if Zt w sh then (dvI w sh, 0) else (⟨0, 0, 0, 0, 0⟩, 21)) := by
  have fd : ∀ k : Nat, k = 24 ∨ k = 20 ∨ k = 16 → Int.fdiv w (2 ^ k) = w / 2 ^ k := fun k hk => Int.fdiv_eq_ediv_of_nonneg _ (by rcases hk with rfl | rfl | rfl <;> decide)
  have p24 : (2 : Int) ^ 24 = 16777216 := by decide
  have p20 : (2 : Int) ^ 20 = 1048576 := by decide
  have p16 : (2 : Int) ^ 16 = 65536 := by decide
  have and15 : ∀ a : Int, 0 ≤ a → a < 4294967296 → A6 .and .u32 a 15 = a % 16 := fun a h0 h1 => cA 4 a h0 h1 (by decide)
  have e1 : IntKind.wrap .i64 (Int.fdiv w (2 ^ 24)) = w / 16777216 := by rw [fd 24 (by simp), p24, Au _ (by omega) (by omega)]
  have e2 : IntKind.wrap .i64 (A6 .and .u32 (Int.fdiv w (2 ^ 20)) 15) = w / 1048576 % 16 := by rw [fd 20 (by simp), p20, and15 _ (by omega) (by omega), Au _ (by omega) (by omega)]
  have e3 : IntKind.wrap .i64 (A6 .and .u32 (Int.fdiv w (2 ^ 16)) 15) = w / 65536 % 16 := by rw [fd 16 (by simp), p16, and15 _ (by omega) (by omega), Au _ (by omega) (by omega)]
  have e4 : IntKind.wrap .i64 (A6 .and .u32 w 15) = w % 16 := by rw [and15 _ w0 w1, Au _ (by omega) (by omega)]
  have e5 : IntKind.wrap .i64 (A6 .and .u32 w 65535) = w % 65536 := by rw [mN w w0 w1, Au _ (by omega) (by omega)]
  obtain ⟨x1, x2⟩ := qU w0 w1
  have e6 : IntKind.wrap .i64 (s16 w) = s16 w := Au _ (by unfold s16; omega) (by unfold s16; omega)
  have e7 : IntKind.wrap .i64 (s24 w) = s24 w := Au _ (by unfold s24; omega) (by unfold s24; omega)
  have fin : ∀ x, sh ≠ -1 → x = dvI w sh → Dr w x = some (if Zt w sh then (dvI w sh, 0) else (⟨0, 0, 0, 0, 0⟩, 21)) := by
    rintro _ hn rfl
    obtain ⟨r0, r1, r2, r3, r4, r5, r6, r7⟩ := dY (w := w) (sh := sh) w0 w1
    have pe := sO (op := (dvI w sh).Op_) (sh := sh) (by rw [r0]; exact hs) (mQ w0 hr hn) (by omega) (by rw [r0]; exact h128 hn) r1 r2 r3 r4 r5 r6 r7
    unfold Dr
    have : dvI w sh = ⟨(dvI w sh).Op_, (dvI w sh).A_, (dvI w sh).B_, (dvI w sh).C_, (dvI w sh).Imm_⟩ := rfl
    rw [← this] at pe
    rw [pe]
    by_cases k : ckP sh (dvI w sh).A_ (dvI w sh).B_ (dvI w sh).C_
    · rw [if_pos k, Ax]
      by_cases q : woP sh (dvI w sh).Op_ (dvI w sh).A_ (dvI w sh).B_ (dvI w sh).C_ (dvI w sh).Imm_ = w
      · rw [if_neg (by simp [q]), if_pos ⟨hn, k, q⟩]
      · rw [if_pos (by simp [q]), if_neg (fun h => q h.2.2)]
    · rw [if_neg k, Ax, if_pos (by simp), if_neg (fun h => k h.2.1)]
  unfold Kf
  rw [e1, e2, e3, hs, Aa]
  rcases hr with rfl | hr
  · rw [if_pos (by decide), if_neg (fun h => h.1 rfl)]
    unfold Ee Ed Ec Eb Ea D9 D8 Dr
    have : Dl ⟨w / 16777216, w / 1048576 % 16, w / 65536 % 16, 0, 0⟩ = some (0, 21) := by
      unfold Dl Ld
      rw [hs, Aa]; rfl
    simp [this, Ax]
  · rcases hr with rfl | rfl | rfl | rfl | rfl | rfl | rfl | rfl | rfl
    all_goals
      simp only [Ee, Ed, Ec, Eb, Ea, D9, D8, x1, x2, Aa, e4, e5, e6, e7]
      simp (config := { decide := true }) only [if_true, if_false, reduceIte, Bool.false_eq_true]
      exact fin _ (by decide) (by unfold dvI; simp)
def toI (x : T_instr_Instr) : T_ref02_Instr := ⟨x.Op_, x.A_, x.B_, x.C_, x.Imm_⟩
theorem qV (w0 : 0 ≤ w) (w1 : w < 4294967296) : Uq w 16 = some (s16 w) ∧ Uq w 24 = some (s24 w) := by
  constructor
  · unfold Uq
    have e : (2 : Int) ^ (16 : Int).toNat = 65536 := by decide
    have r : Uc .i64 (IntKind.wrap .i64 w) 65536 = some (w % 65536) := by
      unfold Uc
      rw [if_neg (by decide), Au w (by omega) (by omega), Fh w0]
    have t : IntKind.wrap .i64 (Int.tdiv 65536 2) = 32768 := by kernel_rfl
    rw [e, r, Aa, t]
    unfold D0 s16
    by_cases c : w % 65536 ≥ 32768
    · rw [if_pos (by simpa using c), Au _ (by omega) (by omega), Kg (by omega) (by omega), Aa, Lz _ (by omega) (by omega)]
      congr 1; omega
    · rw [if_neg (by simpa using c), Kg (by omega) (by omega), Aa, Lz _ (by omega) (by omega)]
      congr 1; omega
  · unfold Uq
    have e : (2 : Int) ^ (24 : Int).toNat = 16777216 := by decide
    have r : Uc .i64 (IntKind.wrap .i64 w) 16777216 = some (w % 16777216) := by
      unfold Uc
      rw [if_neg (by decide), Au w (by omega) (by omega), Fh w0]
    have t : IntKind.wrap .i64 (Int.tdiv 16777216 2) = 8388608 := by kernel_rfl
    rw [e, r, Aa, t]
    unfold D0 s24
    by_cases c : w % 16777216 ≥ 8388608
    · rw [if_pos (by simpa using c), Au _ (by omega) (by omega), Kg (by omega) (by omega), Aa, Lz _ (by omega) (by omega)]
      congr 1; omega
    · rw [if_neg (by simpa using c), Kg (by omega) (by omega), Aa, Lz _ (by omega) (by omega)]
      congr 1; omega
theorem sR {sh : Int} (w0 : 0 ≤ w) (w1 : w < 4294967296) (hs : Fa (w / 16777216) = some sh) (hr : shR sh) (h128 : sh ≠ -1 → w / 16777216 < 128) : F9 w = some (if Zt w sh then (toI (dvI w sh), 0) else (⟨0, 0, 0, 0, 0⟩, 21)) := by
  have e1 : IntKind.wrap .i64 (IntKind.wrap .u32 (Int.tdiv w 16777216)) = w / 16777216 := by rw [Jm w0, Cl _ (by omega) (by omega), Au _ (by omega) (by omega)]
  have e2 : IntKind.wrap .i64 (Int.tmod (IntKind.wrap .u32 (Int.tdiv w 1048576)) 16) = w / 1048576 % 16 := by rw [Jm w0, Cl _ (by omega) (by omega), Fh (by omega), Au _ (by omega) (by omega)]
  have e3 : IntKind.wrap .i64 (Int.tmod (IntKind.wrap .u32 (Int.tdiv w 65536)) 16) = w / 65536 % 16 := by rw [Jm w0, Cl _ (by omega) (by omega), Fh (by omega), Au _ (by omega) (by omega)]
  have e4 : IntKind.wrap .i64 (Int.tmod w 16) = w % 16 := by rw [Fh w0, Au _ (by omega) (by omega)]
  have e5 : IntKind.wrap .i64 (Int.tmod w 65536) = w % 65536 := by rw [Fh w0, Au _ (by omega) (by omega)]
  obtain ⟨x1, x2⟩ := qV w0 w1
  have e6 : IntKind.wrap .i64 (s16 w) = s16 w := Au _ (by unfold s16; omega) (by unfold s16; omega)
  have e7 : IntKind.wrap .i64 (s24 w) = s24 w := Au _ (by unfold s24; omega) (by unfold s24; omega)
  have fin : ∀ a b c n : Int, 0 ≤ a → a < 16 → 0 ≤ b → b < 16 → 0 ≤ c → c < 16 → imP sh n → ckP sh a b c → (Zt w sh ↔ woP sh (w / 16777216) a b c n = w) → (woP sh (w / 16777216) a b c n = w → toI (dvI w sh) = ⟨w / 16777216, a, b, c, n⟩) → sh ≠ -1 →
      Qr w ⟨w / 16777216, a, b, c, n⟩ = some (if Zt w sh then (toI (dvI w sh), 0) else (⟨0, 0, 0, 0, 0⟩, 21)) := fun a b c n a0 a1 b0 b1 c0 c1 hi hk h1 h2 hn => by
    unfold Qr
    rw [sP hs hi (by omega) (h128 hn) a0 a1 b0 b1 c0 c1 hk, Ax]
    by_cases q : woP sh (w / 16777216) a b c n = w
    · rw [if_neg (by simp [q]), if_pos (h1.2 q), h2 q]
    · rw [if_pos (by simp [q]), if_neg (fun h => q (h1.1 h))]
  rw [cB]
  unfold pT
  rw [e1, e2, hs, Aa]
  unfold Mt
  rw [Qn]
  rcases hr with rfl | hr
  · rw [if_neg (fun h => h.1 rfl : ¬ Zt w (-1))]
    have : F8 ⟨w / 16777216, 0, 0, 0, 0⟩ = some (0, 21) := by
      unfold F8 Li
      rw [hs, Aa]; rfl
    simp [Sf, Se, Sd, Sc, Sb, Sa, R9, R8, Qr, this, Ax]
  · rcases hr with rfl | rfl | rfl | rfl | rfl | rfl | rfl | rfl | rfl
    all_goals
      simp only [Sf, Se, Sd, Sc, Sb, Sa, R9, R8, x1, x2, Aa, e3, e4, e5, e6, e7]
      simp (config := { decide := true }) only [if_true, if_false, reduceIte, Bool.false_eq_true]
      refine fin _ _ _ _ (by omega) (by omega) (by omega) (by omega) (by omega) (by omega) ?_ ?_ ?_ ?_ (by decide)
      · simp [imP, s16, s24] <;> omega
      · unfold ckP; simp
      · unfold Zt ckP woP dvI s16 s24; simp <;> omega
      · unfold woP toI dvI s16 s24; simp <;> omega
end
end Go.Proofs.Abs
namespace Go.Proofs.Abs
open Go
set_option linter.unusedVariables false
set_option linter.unusedSimpArgs false
theorem Zc : 1048576 ≤ Mf := Nat.le_of_ble_eq_true (by kernel_rfl)
theorem Ur {α : Type} {zb : Nat} {xs ys : List α} (h : (xs.length + ys.length) * zb ≤ 1048576) : app zb xs ys = some (xs ++ ys) := by
  unfold app; rw [if_pos (Nat.le_trans h Zc)]
/-! registers -/
def Arr.put {n : Nat} (a : Arr n Int) (j : Nat) (v : Int) : Arr n Int := ⟨a.l.set j v, by rw [List.length_set, a.h]⟩
theorem mR {n : Nat} {a : Arr n Int} {j : Int} (h0 : 0 ≤ j) (h : j < n) : ga a j = some (a.g j.toNat) := by
  unfold ga Arr.g
  have hl := a.h
  rw [if_pos (by omega), List.getElem?_eq_getElem (by omega)]; rfl
theorem gD {n : Nat} {a : Arr n Int} {j : Int} {v : Int} (h0 : 0 ≤ j) (h : j < n) : sa a j v = some (a.put j.toNat v) := by
  unfold sa
  rw [if_pos ⟨by omega, by omega⟩]
  rfl
theorem qW {n : Nat} {a : Arr n Int} {j k : Nat} {v : Int} (h : j < n) : (a.put j v).g k = if j = k then v else a.g k := by
  unfold Arr.g Arr.put
  have hl := a.h
  by_cases c : j = k
  · subst c; simp [hl, h]
  · simp [c]
theorem oH {n : Nat} {a : Arr n Int} {j : Nat} {u v : Int} : (a.put j u).put j v = a.put j v := by
  unfold Arr.put; congr 1; simp
theorem Sg (R : Arr 16 Int) (v : Int) : (Ho [R.g 0, R.g 1, R.g 2, R.g 3, R.g 4, R.g 5, R.g 6, R.g 7, R.g 8, R.g 9, R.g 10, R.g 11, R.g 12, R.g 13, v, R.g 15] : Arr 16 Int) = R.put 14 v := by
  obtain ⟨l, h⟩ := R
  unfold Arr.put Arr.g Ho
  congr 1
  match l, h with
  | [a0, a1, a2, a3, a4, a5, a6, a7, a8, a9, a10, a11, a12, a13, a14, a15], _ => rfl
theorem jZ {A B : Arr 16 Int} (h : ∀ q, q < 16 → A.g q = B.g q) : A = B := by
  obtain ⟨a, ha⟩ := A; obtain ⟨b, hb⟩ := B
  have : a = b := by
    apply List.ext_getElem (by omega)
    intro q h1 h2
    have := h q (by omega)
    unfold Arr.g at this
    simpa [h1, h2] using this
  subst this; rfl
/-! the document's memory -/
theorem aQ (p2 : List Int) : ∀ (n : Nat) (p1 : Int) (a5 : List Int) (a6 : Int), 0 ≤ a6 → a6 + n = p2.length → 0 ≤ p1 → p1 + p2.length ≤ a5.length → (a5.length : Int) ≤ 4294967295 →
    Gg (fun (x : List Int × Int) => Dg p2 p1 x.1 x.2) (a5, a6) = some (A4 a5 (p1 + a6).toNat (p2.drop a6.toNat))
  | 0, p1, a5, a6, h0, h1, h2, h3, h4 => by
    rw [Mp (r := a5)]
    · have : p2.drop a6.toNat = [] := List.drop_eq_nil_of_le (by omega)
      rw [this]
      simp [A4]
    · show Dg p2 p1 a5 a6 = _
      unfold Dg
      have c : (decide (a6 < (p2.length : Int))) = false := by simp; omega
      simp [c]
  | n + 1, p1, a5, a6, h0, h1, h2, h3, h4 => by
    have hlt : a6 < p2.length := by omega
    have e : Dg p2 p1 a5 a6 = some (.inl (a5.set (p1 + a6).toNat (p2[a6.toNat]'(by omega)), a6 + 1)) := by
      unfold Dg
      have c : (decide (a6 < (p2.length : Int))) = true := by simp; omega
      rw [if_pos c, Qo h0 hlt, Aa, Au (p1 + a6) (by omega) (by omega), Qo (by omega) (by omega), Aa, iJ (by omega) (by omega), Aa, Au (a6 + 1) (by omega) (by omega)]
    rw [Py (s' := (a5.set (p1 + a6).toNat (p2[a6.toNat]'(by omega)), a6 + 1)) e]
    rw [aQ p2 n p1 _ (a6 + 1) (by omega) (by omega) h2 (by simpa using h3) (by simpa using h4)]
    congr 1
    have e1 : (p1 + (a6 + 1)).toNat = (p1 + a6).toNat + 1 := by omega
    have e2 : (a6 + 1).toNat = a6.toNat + 1 := by omega
    have e3 : p2.drop a6.toNat = p2[a6.toNat]'(by omega) :: p2.drop (a6.toNat + 1) := by rw [List.drop_eq_getElem_cons]
    rw [e1, e2, e3]
    apply List.ext_getElem?
    intro j
    simp only [A4, List.getElem?_append, List.length_append, List.length_take, List.getElem?_take, List.getElem?_drop, List.length_drop, List.length_set, List.getElem?_set, List.length_cons, List.getElem?_cons]
    grind
theorem aR {ws : List Int} {E : Arr 5 Int} (p1 : Int) (p2 : List Int) (h0 : 0 ≤ p1) (h1 : p1 + p2.length ≤ ws.length) (h2 : ws.length ≤ 262144) : Ei ⟨E, ws⟩ p1 p2 = some ⟨E, A4 ws p1.toNat p2⟩ := by
  unfold Ei
  have hm : mks 4 (ws.length : Int) (ws.length : Int) (0 : Int) = some (List.replicate ws.length 0) := by
    unfold mks
    rw [if_pos ⟨by omega, by omega, by have := Zc; omega, by omega⟩]
    simp
  simp only [hm, Aa, Di]
  have hc : cpy (List.replicate ws.length (0 : Int)) 0 ws = ws := by simp [cpy, A4]
  rw [hc, aQ p2 p2.length p1 ws 0 (by omega) (by omega) h0 h1 (by omega), Aa]
  simp
/-! both machines -/
def toR (c : T_cpu_Cpu) : T_ref04_Cpu := ⟨c.R_, c.PC_, c.EPC_, c.Cause_, c.State_, c.Why_, c.Steps_, c.Taken_, c.Out_, c.setup_.Entry_, c.setup_.Vector_, c.setup_.Guard_, c.setup_.Limit_, c.input_⟩
def Vv (l : T_memory_Layout) : Arr 5 Int := Ho [l.Code_, l.Tables_, l.Data_, l.Heap_, l.Stack_]
def toM (m : T_memory_Mem) : T_ref03_Mem := ⟨Vv m.layout_, m.words_⟩
def u32 (x : Int) : Prop := 0 ≤ x ∧ x < 4294967296
structure Inv (c : T_cpu_Cpu) (m : T_memory_Mem) : Prop where
  regs : ∀ q, q < 16 → u32 (c.R_.g q)
  pc : u32 c.PC_
  epc : u32 c.EPC_
  ca : u32 c.Cause_
  tk : 0 ≤ c.Taken_ ∧ c.Taken_ ≤ c.input_.length
  il : c.input_.length ≤ 100
  st : u32 c.setup_.Vector_ ∧ u32 c.setup_.Guard_ ∧ u32 c.setup_.Limit_
  ws : ∀ x, x ∈ m.words_ → u32 x
  wl : (m.words_.length : Int) * 4 = m.layout_.Stack_
  sk : m.layout_.Stack_ ≤ 4096
structure At (H : Ai) (i k : Nat) (c : T_cpu_Cpu) (m : T_memory_Mem) : Prop where
  c : Ba H i 0 = some c
  m : Cr H k 0 = some m
  ne : i ≠ k
def Fr (H H' : Ai) (i k : Nat) : Prop := ∀ j, j ≠ i → j ≠ k → ∀ o n, Cq H' j o n = Cq H j o n
theorem Fr.refl (H : Ai) (i k : Nat) : Fr H H i k := fun _ _ _ _ _ => rfl
theorem Fr.trans {H H1 H2 : Ai} {i k : Nat} (a : Fr H H1 i k) (b : Fr H1 H2 i k) : Fr H H2 i k := fun j h1 h2 o n => (b j h1 h2 o n).trans (a j h1 h2 o n)
theorem pV (x y : T_api_Event) (h : Ae x = Ae y) : x = y := by
  cases x; cases y; simpa [Ae] using h
theorem Qt (x y : T_cpu_Cpu) (h : Bx x = Bx y) : x = y := by
  obtain ⟨R, a, b, d, e, f, g, k, l, ⟨s1, s2, s3, s4⟩, n⟩ := x
  obtain ⟨R', a', b', d', e', f', g', k', l', ⟨s1', s2', s3', s4'⟩, n'⟩ := y
  simp only [Bx, List.cons.injEq, Prod.mk.injEq, AV.sl.injEq, AV.int.injEq, true_and, and_true] at h
  obtain ⟨h0, h1, h2, h3, h4, h5, h6, h7, h8, h9, h10, h11, h12, h13, h14, h15, rfl, rfl, rfl, rfl, rfl, rfl, rfl, ho, rfl, rfl, rfl, rfl, hi⟩ := h
  have hR : R = R' := jZ fun q hq => by
    match q, hq with
    | 0, _ => exact h0
    | 1, _ => exact h1
    | 2, _ => exact h2
    | 3, _ => exact h3
    | 4, _ => exact h4
    | 5, _ => exact h5
    | 6, _ => exact h6
    | 7, _ => exact h7
    | 8, _ => exact h8
    | 9, _ => exact h9
    | 10, _ => exact h10
    | 11, _ => exact h11
    | 12, _ => exact h12
    | 13, _ => exact h13
    | 14, _ => exact h14
    | 15, _ => exact h15
    | n + 16, h => exact absurd h (by omega)
  rw [hR, Wu pV _ _ ho, Wu mK _ _ hi]
theorem cC (x : T_cpu_Cpu) : (Bx x).length = 29 := rfl
section
variable {H : Ai} {i k : Nat} {c : T_cpu_Cpu} {m : T_memory_Mem}
theorem At.setC (A : At H i k c m) (c' : T_cpu_Cpu) : At (Bj H i 0 c') i k c' m ∧ Fr H (Bj H i 0 c') i k :=
  ⟨⟨bT Qt cC A.c _, aO M1 A.ne A.m, A.ne⟩, fun j h1 h2 o n => Tm (Ne.symm h1)⟩
theorem At.setM (A : At H i k c m) (m' : T_memory_Mem) : At (Dj H k 0 m') i k c m' ∧ Fr H (Dj H k 0 m') i k :=
  ⟨⟨aO Qt (Ne.symm A.ne) A.c, bT M1 Ww A.m _, A.ne⟩, fun j h1 h2 o n => Tm (Ne.symm h2)⟩
def To (f : Ai → Option Ai) (i k : Nat) (c : T_cpu_Cpu) (m : T_memory_Mem) (c' : T_cpu_Cpu) (m' : T_memory_Mem) : Prop := ∀ H, At H i k c m → ∃ H', f H = some H' ∧ At H' i k c' m' ∧ Fr H H' i k
def Sy (c : T_cpu_Cpu) : T_cpu_Cpu := ⟨c.R_, IntKind.wrap .u32 (c.PC_ + 4), c.EPC_, c.Cause_, c.State_, c.Why_, c.Steps_, c.Taken_, c.Out_, c.setup_, c.input_⟩
def Tt (c : T_cpu_Cpu) (a : Int) (w : Int) : T_cpu_Cpu := ⟨c.R_.put a.toNat w, IntKind.wrap .u32 (c.PC_ + 4), c.EPC_, c.Cause_, c.State_, c.Why_, c.Steps_, c.Taken_, c.Out_, c.setup_, c.input_⟩
def N1 (c : T_cpu_Cpu) (e : Int) : T_cpu_Cpu := ⟨c.R_, c.PC_, c.EPC_, c.Cause_, 2, e, c.Steps_, c.Taken_, c.Out_, c.setup_, c.input_⟩
def Lk (c : T_cpu_Cpu) (w : Int) : T_cpu_Cpu := if c.PC_ < c.setup_.Guard_ then N1 c 111 else ⟨c.R_, c.setup_.Vector_, c.PC_, w, c.State_, c.Why_, c.Steps_, c.Taken_, c.Out_, c.setup_, c.input_⟩
def Sz (c : T_cpu_Cpu) (n : Int) : T_cpu_Cpu := ⟨c.R_, IntKind.wrap .u32 (c.PC_ + IntKind.wrap .u32 (4 + IntKind.wrap .u32 (IntKind.wrap .i64 (4 * n)))), c.EPC_, c.Cause_, c.State_, c.Why_, c.Steps_, c.Taken_, c.Out_, c.setup_, c.input_⟩
theorem Do (x : Int) : u32 (IntKind.wrap .u32 x) := by unfold u32; rw [Jc]; omega
theorem Inv.next (I : Inv c m) : Inv (Sy c) m := ⟨I.regs, Do _, I.epc, I.ca, I.tk, I.il, I.st, I.ws, I.wl, I.sk⟩
theorem Us {R : Arr 16 Int} {a : Nat} {w : Int} (h : ∀ q, q < 16 → u32 (R.g q)) (ha : a < 16) (hw : u32 w) : ∀ q, q < 16 → u32 ((R.put a w).g q) := fun q hq => by
  rw [qW ha]; split
  · exact hw
  · exact h q hq
theorem Inv.set (I : Inv c m) {a w : Int} (ha : 0 ≤ a ∧ a < 16) (hw : u32 w) : Inv (Tt c a w) m := ⟨Us I.regs (by omega) hw, Do _, I.epc, I.ca, I.tk, I.il, I.st, I.ws, I.wl, I.sk⟩
theorem Inv.fault (I : Inv c m) (e : Int) : Inv (N1 c e) m := ⟨I.regs, I.pc, I.epc, I.ca, I.tk, I.il, I.st, I.ws, I.wl, I.sk⟩
theorem Inv.trap (I : Inv c m) {w : Int} (hw : u32 w) : Inv (Lk c w) m := by
  unfold Lk; split
  · exact I.fault _
  · exact ⟨I.regs, I.st.1, I.pc, hw, I.tk, I.il, I.st, I.ws, I.wl, I.sk⟩
theorem Inv.jump (I : Inv c m) (n : Int) : Inv (Sz c n) m := ⟨I.regs, Do _, I.epc, I.ca, I.tk, I.il, I.st, I.ws, I.wl, I.sk⟩
theorem Rp (e : Int) : To (fun H => Bq H (.at i 0) e) i k c m (N1 c e) m := fun H A => by
  refine ⟨_, ?_, A.setC (N1 c e)⟩
  show Bq H (.at i 0) e = _
  unfold Bq
  rw [Bd, A.c, Aa, Di]; rfl
theorem Wx (w : Int) : To (fun H => Cu H (.at i 0) w) i k c m (Lk c w) m := fun H A => by
  show ∃ H', Cu H (.at i 0) w = _ ∧ _
  unfold Cu Lk
  rw [Bd, A.c, Aa]
  by_cases g : c.PC_ < c.setup_.Guard_
  · obtain ⟨H1, e1, A1⟩ := Rp 111 H A
    have e1 : Bq H (.at i 0) 111 = some H1 := e1
    rw [if_pos (by simpa using g), if_pos g, e1]
    exact ⟨H1, rfl, A1⟩
  · rw [if_neg (by simpa using g), if_neg g, Di]
    exact ⟨_, rfl, A.setC _⟩
theorem cD {a : Int} (ha : 0 ≤ a ∧ a < 16) (w : Int) : To (fun H => Be H (.at i 0) a w) i k c m (Tt c a w) m := fun H A => by
  obtain ⟨A1, f1⟩ := A.setC ⟨c.R_.put a.toNat w, c.PC_, c.EPC_, c.Cause_, c.State_, c.Why_, c.Steps_, c.Taken_, c.Out_, c.setup_, c.input_⟩
  obtain ⟨A2, f2⟩ := A1.setC (Tt c a w)
  refine ⟨_, ?_, A2, f1.trans f2⟩
  show Be H (.at i 0) a w = _
  unfold Be
  rw [Bd, A.c, Aa, mR ha.1 (by omega), Aa, gD ha.1 (by omega), Aa, Di, Di]; rfl
theorem Wy (n : Int) : To (fun H => F5 H (.at i 0) n) i k c m (Sz c n) m := fun H A => by
  refine ⟨_, ?_, A.setC (Sz c n)⟩
  show F5 H (.at i 0) n = _
  unfold F5
  rw [Bd, A.c, Aa, Di]; rfl
theorem mS (b : Bool) (w : Int) : To (fun H => Ez H (.at i 0) b w) i k c m (if b = true then Sy c else Lk c w) m := fun H A => by
  show ∃ H', Ez H (.at i 0) b w = _ ∧ _
  unfold Ez
  cases b with
  | true =>
    rw [if_pos rfl, if_pos rfl, Bd, A.c, Aa, Di]
    exact ⟨_, rfl, A.setC _⟩
  | false =>
    obtain ⟨H1, e1, A1⟩ := Wx w H A
    have e1 : Cu H (.at i 0) w = some H1 := e1
    rw [if_neg (by simp), if_neg (by simp), e1]
    exact ⟨H1, rfl, A1⟩
/-! the document's, the same -/
theorem oI (e : Int) : F7 (toR c) e = some (toR (N1 c e)) := rfl
theorem Tu (w : Int) : Fm (toR c) w = some (toR (Lk c w)) := by
  unfold Fm Lk
  by_cases g : c.PC_ < c.setup_.Guard_
  · rw [if_pos (show decide ((toR c).PC_ < (toR c).Guard_) = true by show decide (c.PC_ < c.setup_.Guard_) = true; simpa using g), if_pos g, oI, Aa]
  · rw [if_neg (show ¬ decide ((toR c).PC_ < (toR c).Guard_) = true by show ¬ decide (c.PC_ < c.setup_.Guard_) = true; simpa using g), if_neg g]; rfl
/-! memory -/
theorem Tv {p : Int} (A : At H i k c m) (hp : u32 p) (hk : (m.words_.length : Int) * 4 = m.layout_.Stack_) : Dv H (.at k 0) p = some (if p % 4 ≠ 0 then (0, 30) else if p ≥ m.layout_.Stack_ then (0, 31) else (p / 4, 0)) := by
  unfold u32 at hp
  unfold Dv
  rw [Fh hp.1, Jm hp.1, Cl (p / 4) (by omega) (by omega), Au (p / 4) (by omega) (by omega)]
  by_cases c1 : p % 4 = 0
  · rw [if_neg (by simpa using c1), if_neg (by simpa using c1), Bd, A.m, Aa]
    by_cases c2 : p ≥ m.layout_.Stack_
    · rw [if_pos (by simpa using c2), if_pos c2]
    · rw [if_neg (by simpa using c2), if_neg c2]
  · rw [if_pos (by simpa using c1), if_pos (by simpa using c1)]
def ldV (m : T_memory_Mem) (p : Int) : Int × Int := if p % 4 ≠ 0 then (0, 30) else if p ≥ m.layout_.Stack_ then (0, 31) else (m.words_[(p / 4).toNat]?.getD 0, 0)
theorem Ut {p : Int} (hp : u32 p) (hk : (m.words_.length : Int) * 4 = m.layout_.Stack_) (h : ¬ p ≥ m.layout_.Stack_) : gi m.words_ (p / 4) = some (m.words_[(p / 4).toNat]?.getD 0) := by
  unfold u32 at hp
  rw [Qo (by omega) (by omega), List.getElem?_eq_getElem (by omega)]; rfl
theorem aS {p : Int} (h : p % 4 ≠ 0) : ldV m p = (0, 30) := by unfold ldV; rw [if_pos h]
theorem aT {p : Int} (h : p % 4 = 0) (h2 : p ≥ m.layout_.Stack_) : ldV m p = (0, 31) := by unfold ldV; rw [if_neg (by simpa using h), if_pos h2]
theorem aU {p : Int} (h : p % 4 = 0) (h2 : ¬ p ≥ m.layout_.Stack_) : ldV m p = (m.words_[(p / 4).toNat]?.getD 0, 0) := by unfold ldV; rw [if_neg (by simpa using h), if_neg h2]
theorem aV {p : Int} (A : At H i k c m) (hp : u32 p) (hk : (m.words_.length : Int) * 4 = m.layout_.Stack_) : Ef H (.at k 0) p = some (ldV m p) := by
  unfold Ef
  rw [Tv A hp hk]
  by_cases c1 : p % 4 = 0
  · by_cases c2 : p ≥ m.layout_.Stack_
    · rw [aT c1 c2, if_neg (by simpa using c1), if_pos c2, Ax, if_pos (by simp)]
    · rw [aU c1 c2, if_neg (by simpa using c1), if_neg c2, Ax, if_neg (by simp), Bd, A.m, Aa, Ut hp hk c2, Aa]
  · rw [aS c1, if_pos c1, Ax, if_pos (by simp)]
theorem gE {p : Int} (hp : u32 p) (hk : (m.words_.length : Int) * 4 = m.layout_.Stack_) : Jz (toM m) p = some (ldV m p) := by
  have hp' := hp
  unfold u32 at hp
  have e : (toM m).W_ = m.words_ := rfl
  unfold Jz
  rw [Fh hp.1, Jm hp.1, Cl (p / 4) (by omega) (by omega), Au (p / 4) (by omega) (by omega), e]
  by_cases c1 : p % 4 = 0
  · by_cases c2 : p ≥ m.layout_.Stack_
    · rw [aT c1 c2, if_neg (by simp [c1]), if_pos (by simp; omega)]
    · rw [aU c1 c2, if_neg (by simp [c1]), if_neg (by simp; omega), Ut hp' hk c2, Aa]
  · rw [aS c1, if_pos (by simpa using c1)]
theorem iL {p : Int} (I : Inv c m) : u32 (ldV m p).1 := by
  unfold ldV
  split
  · exact ⟨by decide, by decide⟩
  · split
    · exact ⟨by decide, by decide⟩
    · show u32 (m.words_[(p / 4).toNat]?.getD 0)
      cases h : m.words_[(p / 4).toNat]? with
      | none => exact ⟨by decide, by decide⟩
      | some x => exact I.ws x (List.mem_of_getElem? h)
end
end Go.Proofs.Abs
namespace Go.Proofs.Abs
open Go
set_option linter.unusedVariables false
set_option linter.unusedSimpArgs false
def So (x : Int) : Prop := -2147483648 ≤ x ∧ x ≤ 2147483647
theorem Ma (x : Int) : So (IntKind.wrap .i32 x) := by unfold So; rw [Bl]; omega
theorem U8 (x y : Int) : (0 ≤ x → 0 ≤ Int.tmod x y) ∧ (x ≤ 0 → Int.tmod x y ≤ 0) := by
  refine ⟨fun h => Int.tmod_nonneg _ h, fun h => ?_⟩
  have := Int.tmod_nonneg y (show 0 ≤ -x by omega)
  rw [Int.neg_tmod] at this; omega
theorem sgn (a b : Prop) [Decidable a] [Decidable b] : ((decide a != decide b) = true) ↔ (a ↔ ¬ b) := by by_cases ha : a <;> by_cases hb : b <;> simp [ha, hb]
theorem cE (x y : Int) : (Int.tmod x y).natAbs ≤ x.natAbs := by rw [Int.natAbs_tmod]; exact Nat.mod_le _ _
theorem Zd {x y : Int} (hx : So x) (hy : So y) : ∃ q ok, Nf x y = some (q, ok) ∧ Hh x y = some (q, ok) ∧ So q ∧ (ok = true → y ≠ 0 ∧ (y = -1 → q = IntKind.wrap .i32 (-x)) ∧ (y ≠ -1 → q = (if x - y * Int.tdiv x y ≠ 0 ∧ (x < 0 ↔ ¬ y < 0) then Int.tdiv x y - 1 else Int.tdiv x y))) := by
  unfold So at hx hy
  by_cases y0 : y = 0
  · subst y0
    exact ⟨0, false, by unfold Nf; rfl, by unfold Hh; rfl, ⟨by decide, by decide⟩, fun h => by cases h⟩
  have ab := Int.natAbs_tdiv_le_natAbs x y
  have qb : -2147483648 ≤ Int.tdiv x y ∧ Int.tdiv x y ≤ 2147483648 := by omega
  have rd : Int.tmod x y = x - y * Int.tdiv x y := Int.tmod_def x y
  by_cases y1 : y = -1
  · subst y1
    have t : Int.tdiv x (-1) = -x := by rw [Int.tdiv_neg, Int.tdiv_one]
    refine ⟨IntKind.wrap .i32 (-x), true, ?_, ?_, Ma _, fun _ => ⟨by decide, fun _ => rfl, fun h => absurd rfl h⟩⟩
    · unfold Nf
      rw [if_neg (by decide), if_pos (by decide)]
      congr 3; omega
    · unfold Hh Ew
      have qi : Zn .i64 (IntKind.wrap .i64 x) (IntKind.wrap .i64 (-1)) = some (-x) := by
        rw [Au x (by omega) (by omega), Au (-1) (by decide) (by decide)]
        unfold Zn
        rw [if_neg (by decide), t, Au _ (by omega) (by omega)]
      rw [if_neg (by decide), qi, Aa, Au (-1) (by decide) (by decide), Au (-x * -1) (by omega) (by omega), Au x (by omega) (by omega), if_neg (by simp), Kg (by omega) (by omega), Aa]
  · have qb : So (Int.tdiv x y) := by
      unfold So
      by_cases xm : x = -2147483648
      · subst xm
        have : (Int.tdiv (-2147483648) y).natAbs = 2147483648 / y.natAbs := by rw [Int.natAbs_tdiv]; rfl
        by_cases yy : y = 1
        · subst yy; decide
        · have : (Int.tdiv (-2147483648) y).natAbs ≤ 2147483648 / 2 := by rw [this]; exact Nat.div_le_div_left (by omega) (by decide)
          omega
      · omega
    unfold So at qb
    have pq : y * Int.tdiv x y = x - Int.tmod x y := by omega
    have rb : -2147483648 ≤ Int.tmod x y ∧ Int.tmod x y ≤ 2147483648 := by
      obtain ⟨s1, s2⟩ := U8 x y
      have := cE x y
      omega
    obtain ⟨s1, s2⟩ := U8 x y
    obtain ⟨q, hq⟩ : ∃ q, q = Int.tdiv x y := ⟨_, rfl⟩
    obtain ⟨r, hr⟩ : ∃ r, r = Int.tmod x y := ⟨_, rfl⟩
    rw [← hq] at qb pq rd
    rw [← hr] at rb pq rd s1 s2
    have qi : Zn .i64 (IntKind.wrap .i64 x) (IntKind.wrap .i64 y) = some q := by
      rw [Au x (by omega) (by omega), Au y (by omega) (by omega)]
      unfold Zn
      rw [if_neg y0, ← hq, Au _ (by omega) (by omega)]
    have qj : Zn .i32 x y = some q := by
      unfold Zn
      rw [if_neg y0, ← hq, Lz _ (by omega) (by omega)]
    have rj : Uc .i32 x y = some r := by
      unfold Uc
      rw [if_neg y0, ← hr]
    have wq : IntKind.wrap .i64 (q * y) = x - r := by rw [Int.mul_comm, pq, Au _ (by omega) (by omega)]
    rw [← hq, ← rd]
    by_cases cd : r ≠ 0 ∧ (x < 0 ↔ ¬ y < 0)
    · have qm : So (q - 1) := by
        unfold So
        refine ⟨?_, by omega⟩
        by_cases qq : q = -2147483648
        · exfalso
          have e : y * -2147483648 = x - r := by rw [← qq]; exact pq
          obtain ⟨c1, c2⟩ := cd
          by_cases xs : x < 0
          · have := c2.1 xs
            have := s2 (by omega)
            omega
          · have : y < 0 := by
              by_cases k : y < 0
              · exact k
              · exact absurd (c2.2 k) xs
            have := s1 (by omega)
            omega
        · omega
      refine ⟨q - 1, true, ?_, ?_, qm, fun _ => ⟨y0, fun h => absurd h y1, fun _ => by rw [if_pos cd]⟩⟩
      · unfold Nf Jw
        rw [if_neg (by simpa using y0), if_neg (by simpa using y1), qj, Aa, rj, Aa, if_pos (by rw [Bool.and_eq_true, bne_iff_ne, sgn]; exact cd), Lz _ qm.1 qm.2]
      · unfold Hh Ew
        unfold So at qm
        rw [if_neg (by simpa using y0), qi, Aa, Au x (by omega) (by omega), Au y (by omega) (by omega), wq, if_pos (by rw [Bool.and_eq_true, bne_iff_ne, sgn]; exact ⟨by omega, cd.2⟩), Au (q - 1) (by omega) (by omega), Kg (by omega) (by omega), Aa, Lz _ qm.1 qm.2]
    · refine ⟨q, true, ?_, ?_, qb, fun _ => ⟨y0, fun h => absurd h y1, fun _ => by rw [if_neg cd]⟩⟩
      · unfold Nf Jw
        rw [if_neg (by simpa using y0), if_neg (by simpa using y1), qj, Aa, rj, Aa, if_neg (by rw [Bool.and_eq_true, bne_iff_ne, sgn]; exact cd)]
      · unfold Hh Ew
        rw [if_neg (by simpa using y0), qi, Aa, Au x (by omega) (by omega), Au y (by omega) (by omega), wq, if_neg (by rw [Bool.and_eq_true, bne_iff_ne, sgn]; exact fun h => cd ⟨by omega, h.2⟩), Kg (by omega) (by omega), Aa, Lz _ qb.1 qb.2]
theorem mT {x y : Int} (hx : So x) (hy : So y) : ∃ q ok, Ng x y = some (q, ok) ∧ Mu x y = some (q, ok) := by
  obtain ⟨q, ok, _, d2, qr, d3⟩ := Zd hx hy
  unfold So at hx hy qr
  by_cases y0 : y = 0
  · subst y0
    exact ⟨0, false, by unfold Ng; rfl, by unfold Mu Hh; rfl⟩
  cases ok with
  | false =>
    exfalso
    unfold Hh Ew at d2
    rw [if_neg (by simpa using y0)] at d2
    obtain ⟨v, _, d2⟩ := Ab d2
    split at d2 <;> (obtain ⟨u, _, d2⟩ := Ab d2; cases d2)
  | true =>
    obtain ⟨_, e1, e2⟩ := d3 rfl
    have rm : Mu x y = some (IntKind.wrap .i32 (x - q * y), true) := by
      have pb : -4611686018427387905 < q * y ∧ q * y < 4611686018427387905 := by
        have := Int.natAbs_mul q y
        have h1 : q.natAbs * y.natAbs ≤ 2147483648 * 2147483648 := Nat.mul_le_mul (by omega) (by omega)
        omega
      unfold Mu
      rw [d2, Ax, if_neg (by simp), Au q (by omega) (by omega), Au y (by omega) (by omega), Au x (by omega) (by omega), Au (q * y) (by omega) (by omega), Au _ (by omega) (by omega)]
      by_cases big : -4611686018427387904 < x - q * y ∧ x - q * y < 4611686018427387904
      · rw [Kg big.1 big.2, Aa]
      · exfalso
        by_cases y1 : y = -1
        · subst y1; omega
        · have rd := Int.tmod_def x y
          have rb := cE x y
          have e2 := e2 y1
          rw [Int.mul_comm] at big
          split at e2
          · rw [e2, Int.mul_sub] at big; omega
          · rw [e2] at big; omega
    rw [rm]
    by_cases y1 : y = -1
    · subst y1
      refine ⟨0, true, by unfold Ng; rw [if_neg (by decide), if_pos (by decide)], ?_⟩
      rw [e1 rfl]
      congr 2
      rw [Bl, Bl]; omega
    · have e2 := e2 y1
      have rd := Int.tmod_def x y
      obtain ⟨s1, s2⟩ := U8 x y
      obtain ⟨r, hr⟩ : ∃ r, r = Int.tmod x y := ⟨_, rfl⟩
      have rj : Uc .i32 x y = some r := by
        unfold Uc
        rw [if_neg y0, ← hr]
      rw [← rd, ← hr] at e2
      rw [← hr] at rd s1 s2
      by_cases cd : r ≠ 0 ∧ (x < 0 ↔ ¬ y < 0)
      · rw [if_pos cd] at e2
        have : x - q * y = r + y := by rw [e2, Int.mul_comm, Int.mul_sub]; omega
        rw [this]
        refine ⟨_, true, ?_, rfl⟩
        unfold Ng Jx
        rw [if_neg (by simpa using y0), if_neg (by simpa using y1), rj, Aa, if_pos]
        rw [Bool.and_eq_true, bne_iff_ne, sgn]
        refine ⟨cd.1, fun h => cd.2.1 (by omega), fun h => ?_⟩
        have := cd.2.2 h
        omega
      · rw [if_neg cd] at e2
        have : x - q * y = r := by rw [e2, Int.mul_comm]; omega
        have rb := cE x y
        rw [← hr] at rb
        rw [this, Lz r (by omega) (by omega)]
        refine ⟨_, true, ?_, rfl⟩
        unfold Ng Jx
        rw [if_neg (by simpa using y0), if_neg (by simpa using y1), rj, Aa, if_neg]
        rw [Bool.and_eq_true, bne_iff_ne, sgn]
        refine fun h => cd ⟨h.1, fun hx0 => h.2.1 ?_, fun hy0 => ?_⟩
        · have := s2 (by omega); omega
        · have := h.2.2 hy0
          by_cases k : 0 ≤ x
          · have := s1 k; omega
          · omega
theorem Ze (x y : Int) : IntKind.wrap .u32 (IntKind.wrap .i32 (IntKind.wrap .i32 x * IntKind.wrap .i32 y)) = IntKind.wrap .u32 (x * y) := by
  obtain ⟨a, ha⟩ : ∃ a, IntKind.wrap .i32 x = x + 4294967296 * a := ⟨-((x + 2147483648) / 4294967296), by rw [Bl]; omega⟩
  obtain ⟨b, hb⟩ : ∃ b, IntKind.wrap .i32 y = y + 4294967296 * b := ⟨-((y + 2147483648) / 4294967296), by rw [Bl]; omega⟩
  have e : (x + 4294967296 * a) * (y + 4294967296 * b) = x * y + 4294967296 * (x * b + a * y + 4294967296 * (a * b)) := by grind
  rw [ha, hb, e, Jc, Jc, Bl]
  omega
end Go.Proofs.Abs
namespace Go.Proofs.Abs
open Go
set_option linter.unusedVariables false
set_option linter.unusedSimpArgs false
def Rg (a : Int) : Prop := 0 ≤ a ∧ a < 16
def Res (f : Nat → Nat → Ai → Option Ai) (x : T_instr_Instr) (c : T_cpu_Cpu) (m : T_memory_Mem) : Prop :=
  ∃ c' m', Cg (toR c) (toM m) (toI x) = some (toR c', toM m') ∧ Inv c' m' ∧ m'.layout_ = m.layout_ ∧ c'.Out_.length ≤ c.Out_.length + 1 ∧ ∀ i k, To (f i k) i k c m c' m'
section
variable {c : T_cpu_Cpu} {m : T_memory_Mem} {a b d n : Int}
theorem Si (p : Prop) [Decidable p] : Nh (decide p) = some (if p then 1 else 0) ∧ Nl (decide p) = some (if p then 1 else 0) := by
  by_cases h : p <;> simp [h, Nh, Nl]
theorem cF (p : Prop) [Decidable p] : u32 (if p then 1 else 0) := by split <;> exact ⟨by decide, by decide⟩
theorem Rq (o : BinOp) (x y : Int) (h : ∃ z, A6 o .u32 x y = IntKind.u32.wrap z) : u32 (A6 o .u32 x y) := by
  obtain ⟨z, e⟩ := h; rw [e]; exact Do z
theorem C7 {f : Nat → Nat → Ai → Option Ai} {x : T_instr_Instr} {c' : T_cpu_Cpu} (h1 : Cg (toR c) (toM m) (toI x) = some (toR c', toM m)) (h2 : Inv c' m) (h3 : c'.Out_ = c.Out_) (h4 : ∀ i k, To (f i k) i k c m c' m) : Res f x c m :=
  ⟨c', m, h1, h2, rfl, by rw [h3]; omega, h4⟩
theorem O1 (w : Int) : (Lk c w).Out_ = c.Out_ := by unfold Lk; split <;> rfl
theorem N9 {g : Ai → Option Ai} {i k : Nat} {w : Int} (ha : Rg a) (h : ∀ H, At H i k c m → g H = Be H (.at i 0) a w) : To g i k c m (Tt c a w) m := fun H A => by
  obtain ⟨H1, e1, A1⟩ := cD ha w H A
  exact ⟨H1, (h H A).trans e1, A1⟩
theorem Kl {q : Option Ai} : Ag q (fun H => some H) = q := by cases q <;> rfl
theorem gF (I : Inv c m) {op : Int} (ho : 6 ≤ op ∧ op ≤ 17) (ha : Rg a) (hb : Rg b) (hd : Rg d) : ∃ v ok, Cd op (c.R_.g b.toNat) (c.R_.g d.toNat) = some (v, ok) ∧ u32 v ∧
    ∀ i k, To (fun H => Bb H (.at i 0) ⟨op, a, b, d, n⟩) i k c m (if ok = true then Tt c a v else Lk c 3) m := by
  obtain ⟨x, hx⟩ : ∃ x, x = c.R_.g b.toNat := ⟨_, rfl⟩
  obtain ⟨y, hy⟩ : ∃ y, y = c.R_.g d.toNat := ⟨_, rfl⟩
  have ux : u32 x := by rw [hx]; exact I.regs _ (by unfold Rg at hb; omega)
  have uy : u32 y := by rw [hy]; exact I.regs _ (by unfold Rg at hd; omega)
  rw [← hx, ← hy]
  have hd' : ∀ {H i k}, At H i k c m → ga c.R_ b = some x ∧ ga c.R_ d = some y := fun A => ⟨by rw [mR hb.1 (by unfold Rg at hb; omega), hx], by rw [mR hd.1 (by unfold Rg at hd; omega), hy]⟩
  have go : ∀ (v : Int), (∀ H i k, At H i k c m → Bb H (.at i 0) ⟨op, a, b, d, n⟩ = Be H (.at i 0) a v) → ∀ i k, To (fun H => Bb H (.at i 0) ⟨op, a, b, d, n⟩) i k c m (if true = true then Tt c a v else Lk c 3) m := fun v h i k => by
    rw [if_pos rfl]; exact N9 ha fun H A => h H i k A
  have : op = 6 ∨ op = 7 ∨ op = 8 ∨ op = 9 ∨ op = 10 ∨ op = 11 ∨ op = 12 ∨ op = 13 ∨ op = 14 ∨ op = 15 ∨ op = 16 ∨ op = 17 := by omega
  rcases this with rfl | rfl | rfl | rfl | rfl | rfl | rfl | rfl | rfl | rfl | rfl | rfl
  · refine ⟨_, true, by unfold Cd; rw [if_pos (by rfl)], Do _, go _ fun H i k A => ?_⟩
    obtain ⟨h1, h2⟩ := hd' A
    unfold Bb
    rw [Bd, A.c, Aa, h1, Aa, h2, Aa, if_pos (by rfl)]; exact Kl
  · refine ⟨_, true, by unfold Cd; rw [if_neg (by decide), if_pos (by rfl)], Do _, go _ fun H i k A => ?_⟩
    obtain ⟨h1, h2⟩ := hd' A
    unfold Bb
    rw [Bd, A.c, Aa, h1, Aa, h2, Aa, if_neg (by simp), if_pos (by rfl)]; exact Kl
  · refine ⟨IntKind.wrap .u32 (x * y), true, ?_, Do _, go _ fun H i k A => ?_⟩
    · have i1 := Ma x
      have i2 := Ma y
      unfold So at i1 i2
      have pb : -4611686018427387905 < IntKind.wrap .i32 x * IntKind.wrap .i32 y ∧ IntKind.wrap .i32 x * IntKind.wrap .i32 y < 4611686018427387905 := by
        have := Int.natAbs_mul (IntKind.wrap .i32 x) (IntKind.wrap .i32 y)
        have h1 : (IntKind.wrap .i32 x).natAbs * (IntKind.wrap .i32 y).natAbs ≤ 2147483648 * 2147483648 := Nat.mul_le_mul (by omega) (by omega)
        omega
      unfold Cd Pa
      rw [if_neg (by decide), if_neg (by decide), if_pos (by rfl), Au (IntKind.wrap .i32 x) (by omega) (by omega), Au (IntKind.wrap .i32 y) (by omega) (by omega), Au _ (by omega) (by omega)]
      by_cases big : IntKind.wrap .i32 x * IntKind.wrap .i32 y = 4611686018427387904
      · have z : Fb 4611686018427387904 = some 0 := by kernel_rfl
        have z2 : IntKind.wrap .u32 (IntKind.wrap .i32 4611686018427387904) = 0 := by kernel_rfl
        rw [← Ze, big, z, Aa, Aa, z2]; rfl
      · by_cases sm : -4611686018427387904 < IntKind.wrap .i32 x * IntKind.wrap .i32 y
        · rw [Kg sm (by omega), Aa, Aa, Ze]
        · have e : IntKind.wrap .i32 x * IntKind.wrap .i32 y = -4611686018427387904 := by omega
          have z : Fb (-4611686018427387904) = some 0 := by kernel_rfl
          have z2 : IntKind.wrap .u32 (IntKind.wrap .i32 (-4611686018427387904)) = 0 := by kernel_rfl
          rw [← Ze, e, z, Aa, Aa, z2]; rfl
    · obtain ⟨h1, h2⟩ := hd' A
      unfold Bb
      rw [Bd, A.c, Aa, h1, Aa, h2, Aa, if_neg (by simp), if_neg (by simp), if_pos (by rfl)]; exact Kl
  · obtain ⟨q, ok, d1, d2, _, _⟩ := Zd (Ma x) (Ma y)
    refine ⟨IntKind.wrap .u32 q, ok, by unfold Cd; rw [if_neg (by decide), if_neg (by decide), if_neg (by decide), if_pos (by rfl), d2, Ax], Do _, fun i k H A => ?_⟩
    obtain ⟨h1, h2⟩ := hd' A
    show ∃ H', Bb H (.at i 0) ⟨9, a, b, d, n⟩ = _ ∧ _
    unfold Bb Bk Jy Dm
    rw [Bd, A.c, Aa, h1, Aa, h2, Aa, if_neg (by simp), if_neg (by simp), if_neg (by simp), if_pos (by rfl), if_pos (by rfl), d1, Ax, if_neg (by simp)]
    cases ok with
    | true =>
      obtain ⟨H1, e1, A1⟩ := cD ha (IntKind.wrap .u32 q) H A
      exact ⟨H1, by rw [if_neg (by simp), Kl]; show Ag (Be H (.at i 0) a _) _ = _; exact (congrArg (fun z => Ag z _) e1), A1⟩
    | false =>
      obtain ⟨H1, e1, A1⟩ := Wx 3 H A
      exact ⟨H1, by rw [if_pos (by rfl), Kl]; exact (congrArg (fun z => Ag z _) e1), A1⟩
  · obtain ⟨q0, ok0, d0, _⟩ := Zd (Ma x) (Ma y)
    obtain ⟨q, ok, d1, d2⟩ := mT (Ma x) (Ma y)
    refine ⟨IntKind.wrap .u32 q, ok, by unfold Cd; rw [if_neg (by decide), if_neg (by decide), if_neg (by decide), if_neg (by decide), if_pos (by rfl), d2, Ax], Do _, fun i k H A => ?_⟩
    obtain ⟨h1, h2⟩ := hd' A
    show ∃ H', Bb H (.at i 0) ⟨10, a, b, d, n⟩ = _ ∧ _
    unfold Bb Bk Jy Dm
    rw [Bd, A.c, Aa, h1, Aa, h2, Aa, if_neg (by simp), if_neg (by simp), if_neg (by simp), if_neg (by simp), if_pos (by rfl), d0, Ax, if_pos (by rfl), d1, Ax]
    cases ok with
    | true =>
      obtain ⟨H1, e1, A1⟩ := cD ha (IntKind.wrap .u32 q) H A
      exact ⟨H1, by rw [if_neg (by simp), Kl]; exact (congrArg (fun z => Ag z _) e1), A1⟩
    | false =>
      obtain ⟨H1, e1, A1⟩ := Wx 3 H A
      exact ⟨H1, by rw [if_pos (by rfl), Kl]; exact (congrArg (fun z => Ag z _) e1), A1⟩
  · refine ⟨_, true, by unfold Cd; rw [if_neg (by decide), if_neg (by decide), if_neg (by decide), if_neg (by decide), if_neg (by decide), if_pos (by rfl)], Rq _ _ _ ⟨_, rfl⟩, go _ fun H i k A => ?_⟩
    obtain ⟨h1, h2⟩ := hd' A
    unfold Bb Bk
    rw [Bd, A.c, Aa, h1, Aa, h2, Aa, if_neg (by simp), if_neg (by simp), if_neg (by simp), if_neg (by simp), if_neg (by simp), if_pos (by rfl)]; exact Kl
  · refine ⟨_, true, by unfold Cd; rw [if_neg (by decide), if_neg (by decide), if_neg (by decide), if_neg (by decide), if_neg (by decide), if_neg (by decide), if_pos (by rfl)], Rq _ _ _ ⟨_, rfl⟩, go _ fun H i k A => ?_⟩
    obtain ⟨h1, h2⟩ := hd' A
    unfold Bb Bk
    rw [Bd, A.c, Aa, h1, Aa, h2, Aa, if_neg (by simp), if_neg (by simp), if_neg (by simp), if_neg (by simp), if_neg (by simp), if_neg (by simp), if_pos (by rfl)]; exact Kl
  · refine ⟨_, true, by unfold Cd; rw [if_neg (by decide), if_neg (by decide), if_neg (by decide), if_neg (by decide), if_neg (by decide), if_neg (by decide), if_neg (by decide), if_pos (by rfl)], Rq _ _ _ ⟨_, rfl⟩, go _ fun H i k A => ?_⟩
    obtain ⟨h1, h2⟩ := hd' A
    unfold Bb Bk
    rw [Bd, A.c, Aa, h1, Aa, h2, Aa, if_neg (by simp), if_neg (by simp), if_neg (by simp), if_neg (by simp), if_neg (by simp), if_neg (by simp), if_neg (by simp), if_pos (by rfl)]; exact Kl
  · obtain ⟨f1, f2⟩ := Si (IntKind.wrap .i32 x < IntKind.wrap .i32 y)
    refine ⟨_, true, by unfold Cd; rw [if_neg (by decide), if_neg (by decide), if_neg (by decide), if_neg (by decide), if_neg (by decide), if_neg (by decide), if_neg (by decide), if_neg (by decide), if_pos (by rfl), f2, Aa], cF _, go _ fun H i k A => ?_⟩
    obtain ⟨h1, h2⟩ := hd' A
    unfold Bb Bk
    rw [Bd, A.c, Aa, h1, Aa, h2, Aa, if_neg (by simp), if_neg (by simp), if_neg (by simp), if_neg (by simp), if_neg (by simp), if_neg (by simp), if_neg (by simp), if_neg (by simp), if_pos (by rfl), f1, Aa]; exact Kl
  · obtain ⟨f1, f2⟩ := Si (IntKind.wrap .i32 x ≤ IntKind.wrap .i32 y)
    refine ⟨_, true, by unfold Cd; rw [if_neg (by decide), if_neg (by decide), if_neg (by decide), if_neg (by decide), if_neg (by decide), if_neg (by decide), if_neg (by decide), if_neg (by decide), if_neg (by decide), if_pos (by rfl), f2, Aa], cF _, go _ fun H i k A => ?_⟩
    obtain ⟨h1, h2⟩ := hd' A
    unfold Bb Bk
    rw [Bd, A.c, Aa, h1, Aa, h2, Aa, if_neg (by simp), if_neg (by simp), if_neg (by simp), if_neg (by simp), if_neg (by simp), if_neg (by simp), if_neg (by simp), if_neg (by simp), if_neg (by simp), if_pos (by rfl), f1, Aa]; exact Kl
  · have eq : (IntKind.wrap .i32 x == IntKind.wrap .i32 y) = decide (x = y) ∧ (x == y) = decide (x = y) := by
      unfold u32 at ux uy
      constructor
      · by_cases h : x = y
        · subst h; simp
        · have : IntKind.wrap .i32 x ≠ IntKind.wrap .i32 y := by rw [Bl, Bl]; omega
          simp [h, this]
      · by_cases h : x = y <;> simp [h]
    obtain ⟨f1, f2⟩ := Si (x = y)
    refine ⟨_, true, by unfold Cd; rw [if_neg (by decide), if_neg (by decide), if_neg (by decide), if_neg (by decide), if_neg (by decide), if_neg (by decide), if_neg (by decide), if_neg (by decide), if_neg (by decide), if_neg (by decide), if_pos (by rfl), eq.2, f2, Aa], cF _, go _ fun H i k A => ?_⟩
    obtain ⟨h1, h2⟩ := hd' A
    unfold Bb Bk
    rw [Bd, A.c, Aa, h1, Aa, h2, Aa, if_neg (by simp), if_neg (by simp), if_neg (by simp), if_neg (by simp), if_neg (by simp), if_neg (by simp), if_neg (by simp), if_neg (by simp), if_neg (by simp), if_neg (by simp), if_pos (by rfl), eq.1, f1, Aa]; exact Kl
  · have eq : (IntKind.wrap .i32 x != IntKind.wrap .i32 y) = decide (x ≠ y) ∧ (x != y) = decide (x ≠ y) := by
      unfold u32 at ux uy
      constructor
      · by_cases h : x = y
        · subst h; simp
        · have : IntKind.wrap .i32 x ≠ IntKind.wrap .i32 y := by rw [Bl, Bl]; omega
          simp [h, this]
      · by_cases h : x = y <;> simp [h]
    obtain ⟨f1, f2⟩ := Si (x ≠ y)
    refine ⟨_, true, by unfold Cd; rw [if_neg (by decide), if_neg (by decide), if_neg (by decide), if_neg (by decide), if_neg (by decide), if_neg (by decide), if_neg (by decide), if_neg (by decide), if_neg (by decide), if_neg (by decide), if_neg (by decide), if_pos (by rfl), eq.2, f2, Aa], cF _, go _ fun H i k A => ?_⟩
    obtain ⟨h1, h2⟩ := hd' A
    unfold Bb Bk
    rw [Bd, A.c, Aa, h1, Aa, h2, Aa, if_neg (by simp), if_neg (by simp), if_neg (by simp), if_neg (by simp), if_neg (by simp), if_neg (by simp), if_neg (by simp), if_neg (by simp), if_neg (by simp), if_neg (by simp), if_neg (by simp), eq.1, f1, Aa]; exact Kl
theorem kA (I : Inv c m) {op : Int} (ho : 6 ≤ op ∧ op ≤ 17) (ha : Rg a) (hb : Rg b) (hd : Rg d) : Res (fun i k H => Bb H (.at i 0) ⟨op, a, b, d, n⟩) ⟨op, a, b, d, n⟩ c m := by
  obtain ⟨v, ok, r1, r2, r3⟩ := gF (n := n) I ho ha hb hd
  have ga' : ∀ q, Rg q → ga c.R_ q = some (c.R_.g q.toNat) := fun q hq => mR hq.1 (by unfold Rg at hq; omega)
  have e : Cg (toR c) (toM m) ⟨op, a, b, d, n⟩ = some (toR (if ok = true then Tt c a v else Lk c 3), toM m) := by
    unfold Cg
    show Ag (ga c.R_ a) _ = _
    rw [ga' a ha, Aa]
    show Ag (ga c.R_ b) _ = _
    rw [ga' b hb, Aa, if_pos (by simp; omega)]
    show Ag (ga c.R_ d) _ = _
    rw [ga' d hd, Aa]
    show Ch (Cd op _ _) _ = _
    rw [r1, Ax]
    cases ok with
    | true =>
      rw [if_neg (by simp), if_pos rfl]
      show Ag (ga c.R_ a) _ = _
      rw [ga' a ha, Aa]
      show Ag (sa c.R_ a v) _ = _
      rw [gD ha.1 (by unfold Rg at ha; omega), Aa]; rfl
    | false => rw [if_pos (by rfl), if_neg (by simp), Tu, Aa]
  refine C7 e ?_ ?_ r3
  · split
    · exact I.set ha r2
    · exact I.trap ⟨by decide, by decide⟩
  · split
    · rfl
    · exact O1 3
end
end Go.Proofs.Abs
namespace Go.Proofs.Abs
open Go
set_option linter.unusedVariables false
set_option linter.unusedSimpArgs false
section
variable {c : T_cpu_Cpu} {m : T_memory_Mem} {a b d n : Int}
def stV (m : T_memory_Mem) (p w : Int) : T_memory_Mem × Int := if (ldV m p).2 ≠ 0 then (m, (ldV m p).2) else if p < m.layout_.Tables_ then (m, 32) else (⟨m.layout_, m.words_.set (p / 4).toNat w⟩, 0)
theorem dZ {p : Int} (h : (ldV m p).2 = 0) : p % 4 = 0 ∧ ¬ p ≥ m.layout_.Stack_ := by
  by_cases c1 : p % 4 = 0
  · by_cases c2 : p ≥ m.layout_.Stack_
    · rw [aT c1 c2] at h; cases h
    · exact ⟨c1, c2⟩
  · rw [aS c1] at h; cases h
theorem eC {i k : Nat} {p w : Int} (hp : u32 p) (hk : (m.words_.length : Int) * 4 = m.layout_.Stack_) {H : Ai} (A : At H i k c m) : ∃ H', Dw H (.at k 0) p w = some (H', (stV m p w).2) ∧ At H' i k c (stV m p w).1 ∧ Fr H H' i k := by
  have hp' := hp
  unfold u32 at hp
  unfold Dw stV
  rw [Tv A hp' hk]
  by_cases c0 : (ldV m p).2 = 0
  · obtain ⟨c1, c2⟩ := dZ c0
    rw [if_neg (by simpa using c1), if_neg c2, Ax, if_neg (by simp), Bd, A.m, Aa]
    simp only [if_neg (show ¬ (ldV m p).2 ≠ 0 by simpa using c0)]
    by_cases c3 : p < m.layout_.Tables_
    · rw [if_pos (by simpa using c3), if_pos c3]
      exact ⟨H, rfl, A, Fr.refl _ _ _⟩
    · rw [if_neg (by simpa using c3), if_neg c3, Ut hp' hk c2, Aa, iJ (by omega) (by omega), Aa, Di]
      exact ⟨_, rfl, A.setM _⟩
  · simp only [if_pos (show (ldV m p).2 ≠ 0 from c0)]
    by_cases c1 : p % 4 = 0
    · by_cases c2 : p ≥ m.layout_.Stack_
      · rw [if_neg (by simpa using c1), if_pos c2, Ax, if_pos (by simp), aT c1 c2]
        exact ⟨H, rfl, A, Fr.refl _ _ _⟩
      · rw [aU c1 c2] at c0; exact absurd rfl c0
    · rw [if_pos c1, Ax, if_pos (by simp), aS c1]
      exact ⟨H, rfl, A, Fr.refl _ _ _⟩
theorem oJ {p w : Int} (hp : u32 p) (hk : (m.words_.length : Int) * 4 = m.layout_.Stack_) (hs : m.layout_.Stack_ ≤ 4096) : Lj (toM m) p w = some (toM (stV m p w).1, (stV m p w).2) := by
  have hp' := hp
  unfold u32 at hp
  unfold Lj stV
  rw [gE hp' hk]
  have e : ∀ q : Int × Int, Ch (some q) (fun r1 r2 => if (r2 != 0) = true then some (toM m, r2) else if decide (p < (toM m).Ends_.g 1) = true then some (toM m, 32) else Ag (Ei (toM m) (IntKind.wrap .i64 (IntKind.wrap .u32 (Int.tdiv p 4))) [w]) fun r6 => some (r6, 0)) = if (q.2 != 0) = true then some (toM m, q.2) else if decide (p < (toM m).Ends_.g 1) = true then some (toM m, 32) else Ag (Ei (toM m) (IntKind.wrap .i64 (IntKind.wrap .u32 (Int.tdiv p 4))) [w]) fun r6 => some (r6, 0) := fun q => rfl
  rw [e]
  have e1 : (toM m).Ends_.g 1 = m.layout_.Tables_ := rfl
  by_cases c0 : (ldV m p).2 = 0
  · obtain ⟨c1, c2⟩ := dZ c0
    rw [if_neg (by simpa using c0), if_neg (show ¬ (ldV m p).2 ≠ 0 by simpa using c0), e1]
    by_cases c3 : p < m.layout_.Tables_
    · rw [if_pos (by simpa using c3), if_pos c3]
    · rw [if_neg (by simpa using c3), if_neg c3, Jm hp.1, Cl (p / 4) (by omega) (by omega), Au (p / 4) (by omega) (by omega)]
      show Ag (Ei ⟨Vv m.layout_, m.words_⟩ (p / 4) [w]) _ = _
      rw [aR (p / 4) [w] (by omega) (by simp; omega) (by omega), Aa]
      have : A4 m.words_ (p / 4).toNat [w] = m.words_.set (p / 4).toNat w := by
        apply List.ext_getElem?
        intro q
        simp only [A4, List.getElem?_append, List.length_append, List.length_take, List.getElem?_take, List.getElem?_drop, List.getElem?_set, List.length_cons, List.getElem?_cons]
        grind
      rw [this]; rfl
  · rw [if_pos (by simpa using c0), if_pos (show (ldV m p).2 ≠ 0 from c0)]
theorem pW (I : Inv c m) {p w : Int} (hw : u32 w) : Inv c (stV m p w).1 ∧ (stV m p w).1.layout_ = m.layout_ := by
  unfold stV
  split
  · exact ⟨I, rfl⟩
  · split
    · exact ⟨I, rfl⟩
    · exact ⟨⟨I.regs, I.pc, I.epc, I.ca, I.tk, I.il, I.st, fun x hx => by
        rcases List.mem_or_eq_of_mem_set hx with h | h
        · exact I.ws x h
        · rw [h]; exact hw, by have := I.wl; simpa using this, I.sk⟩, rfl⟩
theorem iM {v : Int} (h : v = (Sz c n).PC_) : toR (Sz c n) = ⟨c.R_, v, c.EPC_, c.Cause_, c.State_, c.Why_, c.Steps_, c.Taken_, c.Out_, c.setup_.Entry_, c.setup_.Vector_, c.setup_.Guard_, c.setup_.Limit_, c.input_⟩ := by rw [h]; rfl
theorem Wz (hn : -16777216 ≤ n ∧ n ≤ 16777216) : IntKind.wrap .u32 (IntKind.wrap .u32 (c.PC_ + 4) + IntKind.wrap .u32 (4 * IntKind.wrap .u32 n)) = (Sz c n).PC_ := by
  show _ = IntKind.wrap .u32 (c.PC_ + IntKind.wrap .u32 (4 + IntKind.wrap .u32 (IntKind.wrap .i64 (4 * n))))
  rw [Au (4 * n) (by omega) (by omega)]
  simp only [Jc]
  omega
theorem ga' {R : Arr 16 Int} {q : Int} (hq : Rg q) : ga R q = some (R.g q.toNat) := mR hq.1 (by unfold Rg at hq; omega)
theorem sa' {R : Arr 16 Int} {q v : Int} (hq : Rg q) : sa R q v = some (R.put q.toNat v) := gD hq.1 (by unfold Rg at hq; omega)
theorem qX (I : Inv c m) {q : Int} (hq : Rg q) : u32 (c.R_.g q.toNat) := I.regs _ (by unfold Rg at hq; omega)
theorem Zf (I : Inv c m) {op : Int} (ho : op = 2 ∨ op = 5 ∨ op = 18 ∨ op = 19 ∨ op = 20 ∨ op = 21 ∨ op = 22 ∨ op = 23) (ha : Rg a) (hb : Rg b) (hn : -16777216 ≤ n ∧ n ≤ 16777216) :
    Res (fun i k H => Bh H (.at i 0) (.at k 0) ⟨op, a, b, d, n⟩) ⟨op, a, b, d, n⟩ c m := by
  obtain ⟨x, hx⟩ : ∃ x, x = c.R_.g b.toNat := ⟨_, rfl⟩
  obtain ⟨y, hy⟩ : ∃ y, y = c.R_.g a.toNat := ⟨_, rfl⟩
  have g1 : ga c.R_ b = some x := by rw [hx]; exact ga' hb
  have g2 : ga c.R_ a = some y := by rw [hy]; exact ga' ha
  have uy : u32 y := by rw [hy]; exact qX I ha
  obtain ⟨p, hp⟩ : ∃ p, p = IntKind.wrap .u32 (x + IntKind.wrap .u32 n) := ⟨_, rfl⟩
  have up : u32 p := by rw [hp]; exact Do _
  rcases ho with rfl | rfl | rfl | rfl | rfl | rfl | rfl | rfl
  · refine C7 (c' := Tt c a (IntKind.wrap .u32 n)) ?_ (I.set ha (Do _)) rfl fun i k => N9 ha fun H A => ?_
    · unfold Cg
      show Ag (ga c.R_ a) _ = _
      rw [g2, Aa]
      show Ag (ga c.R_ b) _ = _
      rw [g1, Aa, if_neg (by simp [toI]), if_neg (by simp [toI]), if_pos (by rfl)]
      show Ag (ga c.R_ a) _ = _
      rw [g2, Aa]
      show Ag (sa c.R_ a _) _ = _
      rw [sa' ha]; rfl
    · unfold Bh
      rw [Bd, A.c, Aa, g1, Aa, if_pos (by rfl)]; exact Kl
  · refine C7 (c' := Tt c a p) ?_ (I.set ha up) rfl fun i k => N9 ha fun H A => ?_
    · unfold Cg
      show Ag (ga c.R_ a) _ = _
      rw [g2, Aa]
      show Ag (ga c.R_ b) _ = _
      rw [g1, Aa, if_neg (by simp [toI]), if_neg (by simp [toI]), if_neg (by simp [toI]), if_neg (by simp [toI]), if_neg (by simp [toI]), if_pos (by rfl)]
      show Ag (ga c.R_ a) _ = _
      rw [g2, Aa]
      show Ag (sa c.R_ a (IntKind.wrap .u32 (x + IntKind.wrap .u32 n))) _ = _
      rw [sa' ha, ← hp]; rfl
    · unfold Bh
      rw [Bd, A.c, Aa, g1, Aa, if_neg (by simp), if_pos (by rfl), ← hp]; exact Kl
  · have rf : Cg (toR c) (toM m) ⟨18, a, b, d, n⟩ = (if ((ldV m p).2 != 0) = true then some (toR (N1 c (ldV m p).2), toM m) else some (toR (Tt c a (ldV m p).1), toM m)) := by
      unfold Cg
      show Ag (ga c.R_ a) _ = _
      rw [g2, Aa]
      show Ag (ga c.R_ b) _ = _
      rw [g1, Aa, if_neg (by simp), if_neg (by simp), if_neg (by simp), if_neg (by simp), if_neg (by simp), if_neg (by simp), if_neg (by simp), if_pos (by rfl)]
      show Ch (Jz (toM m) (IntKind.wrap .u32 (x + IntKind.wrap .u32 n))) _ = _
      rw [← hp, gE up I.wl]
      show (if ((ldV m p).2 != 0) = true then _ else _) = _
      split
      · rfl
      · show Ag (ga c.R_ a) _ = _
        rw [g2, Aa]
        show Ag (sa c.R_ a _) _ = _
        rw [sa' ha]; rfl
    have pf : ∀ {H i k}, At H i k c m → Bh H (.at i 0) (.at k 0) ⟨18, a, b, d, n⟩ = (if ((ldV m p).2 != 0) = true then Bq H (.at i 0) (ldV m p).2 else Be H (.at i 0) a (ldV m p).1) := fun {H i k} A => by
      unfold Bh
      rw [Bd, A.c, Aa, g1, Aa, if_neg (by simp), if_neg (by simp), if_pos (by rfl)]
      show Ch (Ef H (.at k 0) (IntKind.wrap .u32 (x + IntKind.wrap .u32 n))) _ = _
      rw [← hp, aV A up I.wl]
      show (if ((ldV m p).2 != 0) = true then _ else _) = _
      split <;> exact Kl
    by_cases c0 : (ldV m p).2 = 0
    · rw [if_neg (by simpa using c0)] at rf
      refine C7 rf (I.set ha (iL I)) rfl fun i k => N9 ha fun H A => ?_
      show Bh H (.at i 0) (.at k 0) _ = _
      rw [pf A, if_neg (by simpa using c0)]
    · rw [if_pos (by simpa using c0)] at rf
      refine C7 rf (I.fault _) rfl fun i k H A => ?_
      obtain ⟨H1, e1, A1⟩ := Rp (ldV m p).2 H A
      refine ⟨H1, ?_, A1⟩
      show Bh H (.at i 0) (.at k 0) _ = _
      rw [pf A, if_pos (by simpa using c0)]; exact e1
  · have rf : Cg (toR c) (toM m) ⟨19, a, b, d, n⟩ = (if ((stV m p y).2 != 0) = true then some (toR (N1 c (stV m p y).2), toM m) else some (toR (Sy c), toM (stV m p y).1)) := by
      unfold Cg
      show Ag (ga c.R_ a) _ = _
      rw [g2, Aa]
      show Ag (ga c.R_ b) _ = _
      rw [g1, Aa, if_neg (by simp), if_neg (by simp), if_neg (by simp), if_neg (by simp), if_neg (by simp), if_neg (by simp), if_neg (by simp), if_neg (by simp), if_pos (by rfl)]
      show Ch (Lj (toM m) (IntKind.wrap .u32 (x + IntKind.wrap .u32 n)) y) _ = _
      rw [← hp, oJ up I.wl I.sk]
      show (if ((stV m p y).2 != 0) = true then _ else _) = _
      split <;> rfl
    have sm : (stV m p y).2 ≠ 0 → (stV m p y).1 = m := fun h => by
      unfold stV at h ⊢
      split at h
      · rename_i q; rw [if_pos q]
      · rename_i q; rw [if_neg q]
        split at h
        · rename_i q2; rw [if_pos q2]
        · exact absurd rfl h
    obtain ⟨I2, l2⟩ := pW I (p := p) uy
    by_cases c0 : (stV m p y).2 = 0
    · rw [if_neg (by simpa using c0)] at rf
      refine ⟨_, _, rf, I2.next, l2, by show c.Out_.length ≤ _; omega, fun i k H A => ?_⟩
      obtain ⟨H1, e1, A1, f1⟩ := eC (w := y) up I.wl A
      obtain ⟨A2, f2⟩ := A1.setC (Sy c)
      refine ⟨_, ?_, A2, f1.trans f2⟩
      show Bh H (.at i 0) (.at k 0) _ = _
      unfold Bh
      rw [Bd, A.c, Aa, g1, Aa, if_neg (by simp), if_neg (by simp), if_neg (by simp), if_pos (by rfl)]
      show Ag (ga c.R_ a) _ = _
      rw [g2, Aa]
      show Ch (Dw H (.at k 0) (IntKind.wrap .u32 (x + IntKind.wrap .u32 n)) y) _ = _
      rw [← hp, e1, Ax, if_neg (by simpa using c0), A1.c, Aa, Di]; rfl
    · rw [if_pos (by simpa using c0)] at rf
      refine ⟨_, _, rf, I.fault _, rfl, by show c.Out_.length ≤ _; omega, fun i k H A => ?_⟩
      obtain ⟨H1, e1, A1, f1⟩ := eC (w := y) up I.wl A
      rw [sm c0] at A1
      obtain ⟨H2, e2, A2, f2⟩ := Rp (stV m p y).2 H1 A1
      have e2 : Bq H1 (.at i 0) (stV m p y).2 = some H2 := e2
      refine ⟨H2, ?_, A2, f1.trans f2⟩
      show Bh H (.at i 0) (.at k 0) _ = _
      unfold Bh
      rw [Bd, A.c, Aa, g1, Aa, if_neg (by simp), if_neg (by simp), if_neg (by simp), if_pos (by rfl)]
      show Ag (ga c.R_ a) _ = _
      rw [g2, Aa]
      show Ch (Dw H (.at k 0) (IntKind.wrap .u32 (x + IntKind.wrap .u32 n)) y) _ = _
      rw [← hp, e1, Ax, if_pos (by simpa using c0), e2]; rfl
  · have rf : Cg (toR c) (toM m) ⟨20, a, b, d, n⟩ = some (toR (if y = 0 then Sz c n else Sy c), toM m) := by
      unfold Cg
      show Ag (ga c.R_ a) _ = _
      rw [g2, Aa]
      show Ag (ga c.R_ b) _ = _
      rw [g1, Aa, if_neg (by simp), if_neg (by simp), if_neg (by simp), if_neg (by simp), if_neg (by simp), if_neg (by simp), if_neg (by simp), if_neg (by simp), if_neg (by simp), if_pos (by rfl)]
      by_cases y0 : y = 0
      · rw [if_pos (by simpa using y0), if_pos y0, iM (Wz hn)]; rfl
      · rw [if_neg (by simpa using y0), if_neg y0]; rfl
    refine C7 rf (by
      split
      · exact I.jump _
      · exact I.next) (by split <;> rfl) fun i k H A => ?_
    show ∃ H', Bh H (.at i 0) (.at k 0) _ = _ ∧ _
    unfold Bh Cv
    rw [Bd, A.c, Aa, g1, Aa, if_neg (by simp), if_neg (by simp), if_neg (by simp), if_neg (by simp), if_pos (by rfl), if_pos (by rfl)]
    show ∃ H', Ag (ga c.R_ a) _ = _ ∧ _
    rw [g2, Aa]
    by_cases y0 : y = 0
    · rw [if_pos (by simp [y0]), if_pos y0]
      obtain ⟨H1, e1, A1⟩ := Wy n H A
      exact ⟨H1, congrArg (fun z => Ag z _) e1, A1⟩
    · rw [if_neg (by simp [y0]), if_neg y0, Di]
      exact ⟨_, rfl, A.setC _⟩
  · have rf : Cg (toR c) (toM m) ⟨21, a, b, d, n⟩ = some (toR (if y = 0 then Sy c else Sz c n), toM m) := by
      unfold Cg
      show Ag (ga c.R_ a) _ = _
      rw [g2, Aa]
      show Ag (ga c.R_ b) _ = _
      rw [g1, Aa, if_neg (by simp), if_neg (by simp), if_neg (by simp), if_neg (by simp), if_neg (by simp), if_neg (by simp), if_neg (by simp), if_neg (by simp), if_neg (by simp), if_neg (by simp), if_pos (by rfl)]
      by_cases y0 : y = 0
      · rw [if_neg (by simpa using y0), if_pos y0]; rfl
      · rw [if_pos (by simpa using y0), if_neg y0, iM (Wz hn)]; rfl
    refine C7 rf (by
      split
      · exact I.next
      · exact I.jump _) (by split <;> rfl) fun i k H A => ?_
    show ∃ H', Bh H (.at i 0) (.at k 0) _ = _ ∧ _
    unfold Bh Cv
    rw [Bd, A.c, Aa, g1, Aa, if_neg (by simp), if_neg (by simp), if_neg (by simp), if_neg (by simp), if_neg (by simp), if_pos (by rfl)]
    show ∃ H', Ag (ga c.R_ a) _ = _ ∧ _
    rw [g2, Aa]
    by_cases y0 : y = 0
    · rw [if_neg (by simp [y0]), if_pos y0, Di]
      exact ⟨_, rfl, A.setC _⟩
    · rw [if_pos (by simp [y0]), if_neg y0]
      obtain ⟨H1, e1, A1⟩ := Wy n H A
      exact ⟨H1, congrArg (fun z => Ag z _) e1, A1⟩
  · have rf : Cg (toR c) (toM m) ⟨22, a, b, d, n⟩ = some (toR (Sz c n), toM m) := by
      unfold Cg
      show Ag (ga c.R_ a) _ = _
      rw [g2, Aa]
      show Ag (ga c.R_ b) _ = _
      rw [g1, Aa, if_neg (by simp), if_neg (by simp), if_neg (by simp), if_neg (by simp), if_neg (by simp), if_neg (by simp), if_neg (by simp), if_neg (by simp), if_neg (by simp), if_neg (by simp), if_neg (by simp), if_pos (by rfl), iM (Wz hn)]; rfl
    refine C7 rf (I.jump _) rfl fun i k H A => ?_
    obtain ⟨H1, e1, A1⟩ := Wy n H A
    refine ⟨H1, ?_, A1⟩
    show Bh H (.at i 0) (.at k 0) _ = _
    unfold Bh Cv
    rw [Bd, A.c, Aa, g1, Aa, if_neg (by simp), if_neg (by simp), if_neg (by simp), if_neg (by simp), if_neg (by simp), if_neg (by simp), if_neg (by simp)]
    exact congrArg (fun z => Ag z _) e1
  · obtain ⟨c1, hc1⟩ : ∃ c1 : T_cpu_Cpu, c1 = ⟨c.R_.put 14 (IntKind.wrap .u32 (c.PC_ + 4)), c.PC_, c.EPC_, c.Cause_, c.State_, c.Why_, c.Steps_, c.Taken_, c.Out_, c.setup_, c.input_⟩ := ⟨_, rfl⟩
    have I1 : Inv c1 m := by rw [hc1]; exact ⟨Us I.regs (by decide) (Do _), I.pc, I.epc, I.ca, I.tk, I.il, I.st, I.ws, I.wl, I.sk⟩
    have rf : Cg (toR c) (toM m) ⟨23, a, b, d, n⟩ = some (toR (Sz c1 n), toM m) := by
      unfold Cg
      show Ag (ga c.R_ a) _ = _
      rw [g2, Aa]
      show Ag (ga c.R_ b) _ = _
      rw [g1, Aa, if_neg (by simp), if_neg (by simp), if_neg (by simp), if_neg (by simp), if_neg (by simp), if_neg (by simp), if_neg (by simp), if_neg (by simp), if_neg (by simp), if_neg (by simp), if_neg (by simp), if_neg (by simp), if_pos (by rfl), iM (c := c1) (Wz (c := c1) hn)]
      have e : (Ho [c.R_.g 0, c.R_.g 1, c.R_.g 2, c.R_.g 3, c.R_.g 4, c.R_.g 5, c.R_.g 6, c.R_.g 7, c.R_.g 8, c.R_.g 9, c.R_.g 10, c.R_.g 11, c.R_.g 12, c.R_.g 13, IntKind.wrap .u32 (c.PC_ + 4), c.R_.g 15] : Arr 16 Int) = c1.R_ := by rw [hc1]; exact Sg _ _
      rw [← e, hc1]; rfl
    refine C7 rf (I1.jump _) (by rw [hc1]; rfl) fun i k H A => ?_
    obtain ⟨A1, f1⟩ := A.setC c1
    obtain ⟨H2, e2, A2, f2⟩ := Wy n (Bj H i 0 c1) A1
    refine ⟨H2, ?_, A2, f1.trans f2⟩
    show Bh H (.at i 0) (.at k 0) _ = _
    unfold Bh Cv
    rw [Bd, A.c, Aa, g1, Aa, if_neg (by simp), if_neg (by simp), if_neg (by simp), if_neg (by simp), if_neg (by simp), if_neg (by simp), if_pos (by rfl), Di, Sg]
    rw [hc1] at e2
    exact congrArg (fun z => Ag z _) e2
end
end Go.Proofs.Abs
namespace Go.Proofs.Abs
open Go
set_option linter.unusedVariables false
set_option linter.unusedSimpArgs false
section
variable {c : T_cpu_Cpu} {m : T_memory_Mem} {a b d n : Int}
theorem D6 {op : Int} (ho : 24 ≤ op ∧ op ≤ 33) (ha : Rg a) (hb : Rg b) {r : T_cpu_Cpu} (h : Ce (toR c) ⟨op, a, b, d, n⟩ (c.R_.g a.toNat) = some (toR r)) : Cg (toR c) (toM m) ⟨op, a, b, d, n⟩ = some (toR r, toM m) := by
  unfold Cg
  show Ag (ga c.R_ a) _ = _
  rw [ga' ha, Aa]
  show Ag (ga c.R_ b) _ = _
  rw [ga' hb, Aa, if_neg (by simp; omega), if_neg (by simp; omega), if_neg (by simp; omega), if_neg (by simp; omega), if_neg (by simp; omega), if_neg (by simp; omega), if_neg (by simp; omega), if_neg (by simp; omega), if_neg (by simp; omega), if_neg (by simp; omega), if_neg (by simp; omega), if_neg (by simp; omega), if_neg (by simp; omega), h]
  rfl
theorem cG {g : Ai → Option Ai} {i k : Nat} {c' : T_cpu_Cpu} (h : ∀ H, At H i k c m → g H = some (Bj H i 0 c')) : To g i k c m c' m := fun H A => ⟨_, h H A, A.setC _⟩
theorem Uu {g : Ai → Option Ai} {i k : Nat} {w : Int} (h : ∀ H, At H i k c m → g H = Cu H (.at i 0) w) : To g i k c m (Lk c w) m := fun H A => by
  obtain ⟨H1, e1, A1⟩ := Wx w H A
  exact ⟨H1, (h H A).trans e1, A1⟩
theorem iN {g : Ai → Option Ai} {i k : Nat} {w : Int} {t : Bool} (h : ∀ H, At H i k c m → g H = Ez H (.at i 0) t w) : To g i k c m (if t = true then Sy c else Lk c w) m := fun H A => by
  obtain ⟨H1, e1, A1⟩ := mS t w H A
  exact ⟨H1, (h H A).trans e1, A1⟩
def pX (c : T_cpu_Cpu) (n y : Int) : T_cpu_Cpu := ⟨c.R_, IntKind.wrap .u32 (c.PC_ + 4), c.EPC_, c.Cause_, c.State_, c.Why_, c.Steps_, c.Taken_, c.Out_ ++ [⟨n, IntKind.wrap .i32 y⟩], c.setup_, c.input_⟩
theorem iO (I : Inv c m) {op : Int} (ho : op = 3 ∨ op = 4 ∨ op = 34 ∨ op = 26 ∨ op = 30 ∨ op = 33) (ha : Rg a) (hb : Rg b) (hn : 0 ≤ n ∧ n < 65536) (hl : c.Out_.length ≤ 1000) :
    Res (fun i k H => Co H (.at i 0) ⟨op, a, b, d, n⟩) ⟨op, a, b, d, n⟩ c m := by
  obtain ⟨x, hx⟩ : ∃ x, x = c.R_.g b.toNat := ⟨_, rfl⟩
  obtain ⟨y, hy⟩ : ∃ y, y = c.R_.g a.toNat := ⟨_, rfl⟩
  have g1 : ga c.R_ b = some x := by rw [hx]; exact ga' hb
  have g2 : ga c.R_ a = some y := by rw [hy]; exact ga' ha
  have wn : IntKind.wrap .u32 n = n := Cl n (by omega) (by omega)
  rcases ho with rfl | rfl | rfl | rfl | rfl | rfl
  · refine C7 (c' := Tt c a (IntKind.wrap .u32 (IntKind.wrap .u32 n * 65536))) ?_ (I.set ha (Do _)) rfl fun i k => N9 ha fun H A => ?_
    · unfold Cg
      show Ag (ga c.R_ a) _ = _
      rw [g2, Aa]
      show Ag (ga c.R_ b) _ = _
      rw [g1, Aa, if_neg (by simp [toI]), if_neg (by simp [toI]), if_neg (by simp [toI]), if_pos (by rfl)]
      show Ag (ga c.R_ a) _ = _
      rw [g2, Aa]
      show Ag (sa c.R_ a _) _ = _
      rw [sa' ha]; rfl
    · unfold Co
      rw [if_pos (by rfl)]; exact Kl
  · refine C7 (c' := Tt c a (A6 .or .u32 x (IntKind.wrap .u32 n))) ?_ (I.set ha (Rq _ _ _ ⟨_, rfl⟩)) rfl fun i k => N9 ha fun H A => ?_
    · unfold Cg
      show Ag (ga c.R_ a) _ = _
      rw [g2, Aa]
      show Ag (ga c.R_ b) _ = _
      rw [g1, Aa, if_neg (by simp [toI]), if_neg (by simp [toI]), if_neg (by simp [toI]), if_neg (by simp [toI]), if_pos (by rfl)]
      show Ag (ga c.R_ a) _ = _
      rw [g2, Aa]
      show Ag (sa c.R_ a _) _ = _
      rw [sa' ha]; rfl
    · unfold Co
      rw [if_neg (by simp), if_pos (by rfl), Bd, A.c, Aa, g1, Aa]; exact Kl
  · refine C7 (c' := Tt c a (A6 .xor .u32 x (IntKind.wrap .u32 n))) ?_ (I.set ha (Rq _ _ _ ⟨_, rfl⟩)) rfl fun i k => N9 ha fun H A => ?_
    · unfold Cg
      show Ag (ga c.R_ a) _ = _
      rw [g2, Aa]
      show Ag (ga c.R_ b) _ = _
      rw [g1, Aa, if_neg (by simp [toI]), if_neg (by simp [toI]), if_neg (by simp [toI]), if_neg (by simp [toI]), if_neg (by simp [toI]), if_neg (by simp [toI]), if_pos (by rfl)]
      show Ag (ga c.R_ a) _ = _
      rw [g2, Aa]
      show Ag (sa c.R_ a _) _ = _
      rw [sa' ha]; rfl
    · unfold Co
      rw [if_neg (by simp), if_neg (by simp), if_pos (by rfl), Bd, A.c, Aa, g1, Aa]; exact Kl
  · by_cases q : y ≥ IntKind.wrap .u32 n
    · refine C7 (c' := Lk c (IntKind.wrap .u32 b)) (D6 (by simp) ha hb ?_) (I.trap (Do _)) (O1 _) fun i k => Uu fun H A => ?_
      · unfold Ce
        rw [if_neg (by simp), if_neg (by simp), if_pos (by rfl), if_pos (by rw [← hy]; simpa using q), Tu]; rfl
      · unfold Co
        rw [if_neg (by simp), if_neg (by simp), if_neg (by simp), if_pos (by rfl), Bd, A.c, Aa, g2, Aa, if_pos (by simpa using q)]; exact Kl
    · refine C7 (c' := Sy c) (D6 (by simp) ha hb ?_) I.next rfl fun i k => cG fun H A => ?_
      · unfold Ce
        rw [if_neg (by simp), if_neg (by simp), if_pos (by rfl), if_neg (by rw [← hy]; simpa using q)]; rfl
      · unfold Co
        rw [if_neg (by simp), if_neg (by simp), if_neg (by simp), if_pos (by rfl), Bd, A.c, Aa, g2, Aa, if_neg (by simpa using q)]; rfl
  · refine ⟨pX c n y, m, D6 (r := pX c n y) (by simp) ha hb ?_, ⟨I.regs, Do _, I.epc, I.ca, I.tk, I.il, I.st, I.ws, I.wl, I.sk⟩, rfl, by show (c.Out_ ++ [_]).length ≤ _; simp, fun i k H A => ?_⟩
    · unfold Ce
      rw [if_neg (by simp), if_neg (by simp), if_neg (by simp), if_neg (by simp), if_neg (by simp), if_neg (by simp), if_pos (by rfl), ← hy]
      have o1 : app 16 ([] : List T_api_Event) (toR c).Out_ = some c.Out_ := by
        show app 16 ([] : List T_api_Event) c.Out_ = some c.Out_
        rw [Ur (by simp; omega)]; rfl
      rw [o1, Aa, Ur (by simp; omega)]; rfl
    · obtain ⟨A1, f1⟩ := A.setC ⟨c.R_, c.PC_, c.EPC_, c.Cause_, c.State_, c.Why_, c.Steps_, c.Taken_, c.Out_ ++ [⟨n, IntKind.wrap .i32 y⟩], c.setup_, c.input_⟩
      obtain ⟨A2, f2⟩ := A1.setC (pX c n y)
      refine ⟨_, ?_, A2, f1.trans f2⟩
      show Co H (.at i 0) _ = _
      unfold Co
      rw [if_neg (by simp), if_neg (by simp), if_neg (by simp), if_neg (by simp), if_pos (by rfl), Bd, A.c, Aa, g2, Aa, Ur (by simp; omega)]; rfl
  · have pg : ∀ H i, Co H (.at i 0) ⟨33, a, b, d, n⟩ = Eg H (.at i 0) ⟨33, a, b, d, n⟩ := fun H i => by
      unfold Co
      rw [if_neg (by simp), if_neg (by simp), if_neg (by simp), if_neg (by simp), if_neg (by simp)]; exact Kl
    have s1 : ∀ v, sa c.R_ a v = some (c.R_.put a.toNat v) := fun v => sa' ha
    by_cases n0 : n = 0
    · subst n0
      refine C7 (c' := Tt c a c.EPC_) (D6 (by simp) ha hb ?_) (I.set ha I.epc) rfl fun i k => N9 ha fun H A => ?_
      · unfold Ce
        rw [if_neg (by simp), if_neg (by simp), if_neg (by simp), if_neg (by simp), if_neg (by simp), if_neg (by simp), if_neg (by simp), if_neg (by simp), if_neg (by simp), if_pos (by rfl), if_neg (by simp)]
        show Ag (ga c.R_ a) _ = _
        rw [g2, Aa]
        show Ag (sa c.R_ a c.EPC_) _ = _
        rw [s1]; rfl
      · rw [pg]
        unfold Eg
        rw [if_pos (by rfl), Bd, A.c, Aa]; exact Kl
    · by_cases n1 : n = 1
      · subst n1
        refine C7 (c' := Tt c a c.Cause_) (D6 (by simp) ha hb ?_) (I.set ha I.ca) rfl fun i k => N9 ha fun H A => ?_
        · unfold Ce
          rw [if_neg (by simp), if_neg (by simp), if_neg (by simp), if_neg (by simp), if_neg (by simp), if_neg (by simp), if_neg (by simp), if_neg (by simp), if_neg (by simp), if_pos (by rfl), if_neg (by simp)]
          show Ag (ga c.R_ a) _ = _
          rw [g2, Aa]
          show Ag (sa c.R_ a c.EPC_) _ = _
          rw [s1, Aa, if_pos (by rfl)]
          show Ag (ga (c.R_.put a.toNat c.EPC_) a) _ = _
          rw [ga' ha, Aa]
          show Ag (sa (c.R_.put a.toNat c.EPC_) a c.Cause_) _ = _
          rw [sa' ha, oH]; rfl
        · rw [pg]
          unfold Eg
          rw [if_neg (by simp), if_pos (by rfl), Bd, A.c, Aa]; exact Kl
      · refine C7 (c' := N1 c 20) (D6 (by simp) ha hb ?_) (I.fault _) rfl fun i k H A => ?_
        · unfold Ce
          rw [if_neg (by simp), if_neg (by simp), if_neg (by simp), if_neg (by simp), if_neg (by simp), if_neg (by simp), if_neg (by simp), if_neg (by simp), if_neg (by simp), if_pos (by rfl), if_pos (by simp; omega)]; rfl
        · obtain ⟨H1, e1, A1⟩ := Rp 20 H A
          refine ⟨H1, ?_, A1⟩
          show Co H (.at i 0) _ = _
          rw [pg]
          unfold Eg
          rw [if_neg (by simpa using n0), if_neg (by simpa using n1)]; exact (Kl (q := Ag _ _)).symm.trans (by rw [Kl]; exact Kl.trans e1)
theorem cH (I : Inv c m) {op : Int} (ho : op = 1 ∨ op = 24 ∨ op = 25 ∨ op = 27 ∨ op = 28 ∨ op = 29 ∨ op = 31 ∨ op = 32) (ha : Rg a) (hb : Rg b) (hn : 0 ≤ n ∧ n < 65536) :
    Res (fun i k H => Cm H (.at i 0) ⟨op, a, b, d, n⟩) ⟨op, a, b, d, n⟩ c m := by
  obtain ⟨y, hy⟩ : ∃ y, y = c.R_.g a.toNat := ⟨_, rfl⟩
  have g1 : ga c.R_ b = some (c.R_.g b.toNat) := ga' hb
  have g2 : ga c.R_ a = some y := by rw [hy]; exact ga' ha
  have uy : u32 y := by rw [hy]; exact qX I ha
  rcases ho with rfl | rfl | rfl | rfl | rfl | rfl | rfl | rfl
  · refine C7 (c' := ⟨c.R_, c.PC_, c.EPC_, c.Cause_, 1, c.Why_, c.Steps_, c.Taken_, c.Out_, c.setup_, c.input_⟩) ?_ ⟨I.regs, I.pc, I.epc, I.ca, I.tk, I.il, I.st, I.ws, I.wl, I.sk⟩ rfl fun i k => cG fun H A => ?_
    · unfold Cg
      show Ag (ga c.R_ a) _ = _
      rw [g2, Aa]
      show Ag (ga c.R_ b) _ = _
      rw [g1, Aa, if_neg (by simp [toI]), if_pos (by rfl)]; rfl
    · unfold Cm
      rw [if_pos (by rfl), Bd, A.c, Aa]; rfl
  · refine C7 (c' := ⟨c.R_, y, c.EPC_, c.Cause_, c.State_, c.Why_, c.Steps_, c.Taken_, c.Out_, c.setup_, c.input_⟩) (D6 (by simp) ha hb ?_) ⟨I.regs, uy, I.epc, I.ca, I.tk, I.il, I.st, I.ws, I.wl, I.sk⟩ rfl fun i k => cG fun H A => ?_
    · rw [← hy]; rfl
    · unfold Cm
      rw [if_neg (by simp), if_pos (by rfl), Bd, A.c, Aa, g2]; rfl
  · refine C7 (c' := ⟨c.R_.put 14 (IntKind.wrap .u32 (c.PC_ + 4)), y, c.EPC_, c.Cause_, c.State_, c.Why_, c.Steps_, c.Taken_, c.Out_, c.setup_, c.input_⟩) (D6 (by simp) ha hb ?_) ⟨Us I.regs (by decide) (Do _), uy, I.epc, I.ca, I.tk, I.il, I.st, I.ws, I.wl, I.sk⟩ rfl fun i k H A => ?_
    · rw [← hy]
      unfold Ce
      rw [if_neg (by simp), if_pos (by rfl)]
      show some _ = _
      have e : (Ho [c.R_.g 0, c.R_.g 1, c.R_.g 2, c.R_.g 3, c.R_.g 4, c.R_.g 5, c.R_.g 6, c.R_.g 7, c.R_.g 8, c.R_.g 9, c.R_.g 10, c.R_.g 11, c.R_.g 12, c.R_.g 13, IntKind.wrap .u32 (c.PC_ + 4), c.R_.g 15] : Arr 16 Int) = c.R_.put 14 (IntKind.wrap .u32 (c.PC_ + 4)) := Sg _ _
      rw [← e]; rfl
    · obtain ⟨A1, f1⟩ := A.setC ⟨c.R_.put 14 (IntKind.wrap .u32 (c.PC_ + 4)), c.PC_, c.EPC_, c.Cause_, c.State_, c.Why_, c.Steps_, c.Taken_, c.Out_, c.setup_, c.input_⟩
      obtain ⟨A2, f2⟩ := A1.setC ⟨c.R_.put 14 (IntKind.wrap .u32 (c.PC_ + 4)), y, c.EPC_, c.Cause_, c.State_, c.Why_, c.Steps_, c.Taken_, c.Out_, c.setup_, c.input_⟩
      refine ⟨_, ?_, A2, f1.trans f2⟩
      show Cm H (.at i 0) _ = _
      unfold Cm
      rw [if_neg (by simp), if_neg (by simp), if_pos (by rfl), Bd, A.c, Aa, g2, Aa, Di, Di, Sg]; rfl
  · refine C7 (c' := if (y != 0) = true then Sy c else Lk c 2) (D6 (by simp) ha hb ?_) ?_ ?_ fun i k => iN fun H A => ?_
    · rw [← hy]
      unfold Ce
      rw [if_neg (by simp), if_neg (by simp), if_neg (by simp), if_pos (by rfl)]
      by_cases y0 : y = 0
      · rw [if_pos (by simpa using y0), if_neg (by simpa using y0), Tu]; rfl
      · rw [if_neg (by simpa using y0), if_pos (by simpa using y0)]; rfl
    · split
      · exact I.next
      · exact I.trap ⟨by decide, by decide⟩
    · split
      · rfl
      · exact O1 _
    · unfold Cm
      rw [if_neg (by simp), if_neg (by simp), if_neg (by simp), if_pos (by rfl), Bd, A.c, Aa, g2, Aa]; exact Kl
  · refine C7 (c' := Lk c (IntKind.wrap .u32 n)) (D6 (by simp) ha hb ?_) (I.trap (Do _)) (O1 _) fun i k => Uu fun H A => ?_
    · unfold Ce
      rw [if_neg (by simp), if_neg (by simp), if_neg (by simp), if_neg (by simp), if_pos (by rfl), Tu]; rfl
    · unfold Cm
      rw [if_neg (by simp), if_neg (by simp), if_neg (by simp), if_neg (by simp), if_pos (by rfl)]; exact Kl
  · refine C7 (c' := Lk c y) (D6 (by simp) ha hb ?_) (I.trap uy) (O1 _) fun i k => Uu fun H A => ?_
    · rw [← hy]
      unfold Ce
      rw [if_neg (by simp), if_neg (by simp), if_neg (by simp), if_neg (by simp), if_neg (by simp), if_pos (by rfl), Tu]; rfl
    · unfold Cm
      rw [if_neg (by simp), if_neg (by simp), if_neg (by simp), if_neg (by simp), if_neg (by simp), if_pos (by rfl), Bd, A.c, Aa, g2, Aa]; exact Kl
  · obtain ⟨t0, t1⟩ := I.tk
    have il := I.il
    by_cases q : c.Taken_ ≥ (c.input_.length : Int)
    · refine C7 (c' := Lk c 7) (D6 (by simp) ha hb ?_) (I.trap ⟨by decide, by decide⟩) (O1 _) fun i k => Uu fun H A => ?_
      · unfold Ce
        rw [if_neg (by simp), if_neg (by simp), if_neg (by simp), if_neg (by simp), if_neg (by simp), if_neg (by simp), if_neg (by simp), if_pos (by rfl), if_pos (show decide ((toR c).Taken_ ≥ ((toR c).Input_.length : Int)) = true from (decide_eq_true q : decide (c.Taken_ ≥ (c.input_.length : Int)) = true)), Tu]; rfl
      · unfold Cm
        rw [if_neg (by simp), if_neg (by simp), if_neg (by simp), if_neg (by simp), if_neg (by simp), if_neg (by simp), if_pos (by rfl), Bd, A.c, Aa, if_pos (by simpa using q)]; exact Kl
    · have wt : IntKind.wrap .i64 (c.Taken_ + 1) = c.Taken_ + 1 := Au _ (by omega) (by omega)
      have wt2 : IntKind.wrap .i64 (c.Taken_ + 1 - 1) = c.Taken_ := by rw [Au _ (by omega) (by omega)]; omega
      obtain ⟨x, hx⟩ : ∃ x, gi c.input_ c.Taken_ = some x := ⟨_, Qo (by omega) (by omega)⟩
      refine C7 (c' := ⟨c.R_.put a.toNat (IntKind.wrap .u32 x), IntKind.wrap .u32 (c.PC_ + 4), c.EPC_, c.Cause_, c.State_, c.Why_, c.Steps_, c.Taken_ + 1, c.Out_, c.setup_, c.input_⟩) (D6 (by simp) ha hb ?_) ⟨Us I.regs (by unfold Rg at ha; omega) (Do _), Do _, I.epc, I.ca, ⟨by show 0 ≤ c.Taken_ + 1; omega, by show c.Taken_ + 1 ≤ c.input_.length; omega⟩, I.il, I.st, I.ws, I.wl, I.sk⟩ rfl fun i k H A => ?_
      · unfold Ce
        rw [if_neg (by simp), if_neg (by simp), if_neg (by simp), if_neg (by simp), if_neg (by simp), if_neg (by simp), if_neg (by simp), if_pos (by rfl), if_neg (show ¬ decide ((toR c).Taken_ ≥ ((toR c).Input_.length : Int)) = true from (fun h => q (of_decide_eq_true h) : ¬ decide (c.Taken_ ≥ (c.input_.length : Int)) = true))]
        show Ag (gi c.input_ c.Taken_) _ = _
        rw [hx, Aa]
        show Ag (ga c.R_ a) _ = _
        rw [g2, Aa]
        show Ag (sa c.R_ a _) _ = _
        rw [sa' ha, Aa]
        show some _ = _
        have : IntKind.wrap .i64 ((toR c).Taken_ + 1) = c.Taken_ + 1 := wt
        rw [this]; rfl
      · obtain ⟨A1, f1⟩ := A.setC ⟨c.R_, c.PC_, c.EPC_, c.Cause_, c.State_, c.Why_, c.Steps_, c.Taken_ + 1, c.Out_, c.setup_, c.input_⟩
        obtain ⟨H2, e2, A2, f2⟩ := cD ha (IntKind.wrap .u32 x) _ A1
        refine ⟨H2, ?_, A2, f1.trans f2⟩
        show Cm H (.at i 0) _ = _
        unfold Cm
        rw [if_neg (by simp), if_neg (by simp), if_neg (by simp), if_neg (by simp), if_neg (by simp), if_neg (by simp), if_pos (by rfl), Bd, A.c, Aa, if_neg (by simpa using q), Di, wt, wt2, hx, Aa]
        exact Kl.trans e2
  · refine C7 (c' := if (decide (IntKind.wrap .i32 y ≥ IntKind.wrap .i32 c.setup_.Limit_)) = true then Sy c else Lk c 5) (D6 (by simp) ha hb ?_) ?_ ?_ fun i k => iN fun H A => ?_
    · rw [← hy]
      unfold Ce
      rw [if_neg (by simp), if_neg (by simp), if_neg (by simp), if_neg (by simp), if_neg (by simp), if_neg (by simp), if_neg (by simp), if_neg (by simp), if_pos (by rfl)]
      by_cases y0 : IntKind.wrap .i32 y ≥ IntKind.wrap .i32 c.setup_.Limit_
      · rw [if_neg (show ¬ decide (IntKind.wrap .i32 y < IntKind.wrap .i32 (toR c).Limit_) = true from (by simp; omega : ¬ decide (IntKind.wrap .i32 y < IntKind.wrap .i32 c.setup_.Limit_) = true)), if_pos (by simpa using y0)]; rfl
      · rw [if_pos (show decide (IntKind.wrap .i32 y < IntKind.wrap .i32 (toR c).Limit_) = true from (by simp; omega : decide (IntKind.wrap .i32 y < IntKind.wrap .i32 c.setup_.Limit_) = true)), if_neg (by simpa using y0), Tu]; rfl
    · split
      · exact I.next
      · exact I.trap ⟨by decide, by decide⟩
    · split
      · rfl
      · exact O1 _
    · unfold Cm
      rw [if_neg (by simp), if_neg (by simp), if_neg (by simp), if_neg (by simp), if_neg (by simp), if_neg (by simp), if_neg (by simp), Bd, A.c, Aa, g2, Aa]; exact Kl
end
end Go.Proofs.Abs
namespace Go.Proofs.Abs
open Go
set_option linter.unusedVariables false
set_option linter.unusedSimpArgs false
section
variable {c : T_cpu_Cpu} {m : T_memory_Mem}
def ftV (m : T_memory_Mem) (p : Int) : Int × Int := if (ldV m p).2 ≠ 0 then (0, (ldV m p).2) else if p ≥ m.layout_.Code_ then (0, 31) else ((ldV m p).1, 0)
theorem oK (I : Inv c m) (p : Int) : u32 (ftV m p).1 := by
  unfold ftV
  have z : u32 0 := ⟨by decide, by decide⟩
  split
  · exact z
  · split
    · exact z
    · exact iL I
theorem gG {H : Ai} {i k : Nat} {p : Int} (A : At H i k c m) (hp : u32 p) (hk : (m.words_.length : Int) * 4 = m.layout_.Stack_) : Gx H (.at k 0) p = some (ftV m p) := by
  have hp' := hp
  unfold u32 at hp
  unfold Gx ftV
  rw [Tv A hp' hk]
  by_cases c1 : p % 4 = 0
  · by_cases c2 : p ≥ m.layout_.Stack_
    · rw [if_neg (by simpa using c1), if_pos c2, Ax, if_pos (by simp), aT c1 c2, if_pos (by simp)]
    · rw [if_neg (by simpa using c1), if_neg c2, Ax, if_neg (by simp), Bd, A.m, Aa, aU c1 c2, if_neg (show ¬ (m.words_[(p / 4).toNat]?.getD 0, (0 : Int)).2 ≠ 0 by simp)]
      by_cases c3 : p ≥ m.layout_.Code_
      · rw [if_pos (by simpa using c3), if_pos c3]
      · rw [if_neg (by simpa using c3), if_neg c3, Ut hp' hk c2, Aa]
  · rw [if_pos c1, Ax, if_pos (by simp), aS c1, if_pos (by simp)]
theorem oL {p : Int} (hp : u32 p) (hk : (m.words_.length : Int) * 4 = m.layout_.Stack_) : F6 (toM m) p = some (ftV m p) := by
  unfold F6 ftV
  rw [gE hp hk]
  have e : ∀ q : Int × Int, Ch (some q) (fun r1 r2 => if ((r2 == 0) && (decide (p ≥ ((toM m).Ends_.g 0)))) = true then (some (0, 31)) else (some (r1, r2))) = if ((q.2 == 0) && (decide (p ≥ ((toM m).Ends_.g 0)))) = true then some (0, 31) else some (q.1, q.2) := fun q => rfl
  rw [e]
  have e1 : (toM m).Ends_.g 0 = m.layout_.Code_ := rfl
  rw [e1]
  by_cases c0 : (ldV m p).2 = 0
  · rw [if_neg (show ¬ (ldV m p).2 ≠ 0 by simpa using c0), c0]
    by_cases c3 : p ≥ m.layout_.Code_
    · rw [if_pos (by simpa using c3), if_pos c3]
    · rw [if_neg (by simpa using c3), if_neg c3]
  · rw [if_neg (by simp [c0]), if_pos (show (ldV m p).2 ≠ 0 from c0)]
    by_cases c1 : p % 4 = 0
    · by_cases c2 : p ≥ m.layout_.Stack_
      · rw [aT c1 c2]
      · rw [aU c1 c2] at c0; exact absurd rfl c0
    · rw [aS c1]
theorem mU (I : Inv c m) (hl : c.Out_.length ≤ 1000) {x : T_instr_Instr} {sh : Int} (ra : Rg x.A_) (rb : Rg x.B_) (rd : Rg x.C_) (im : imP sh x.Imm_)
    (hs : sh = 0 ∧ x.Op_ = 1 ∨ sh = 1 ∧ (x.Op_ = 2 ∨ x.Op_ = 20 ∨ x.Op_ = 21) ∨ sh = 2 ∧ (x.Op_ = 3 ∨ x.Op_ = 30 ∨ x.Op_ = 33) ∨ sh = 3 ∧ (x.Op_ = 5 ∨ x.Op_ = 18 ∨ x.Op_ = 19) ∨ sh = 4 ∧ (x.Op_ = 4 ∨ x.Op_ = 26 ∨ x.Op_ = 34) ∨ sh = 5 ∧ 6 ≤ x.Op_ ∧ x.Op_ ≤ 17 ∨ sh = 6 ∧ (x.Op_ = 24 ∨ x.Op_ = 25 ∨ x.Op_ = 27 ∨ x.Op_ = 29 ∨ x.Op_ = 31 ∨ x.Op_ = 32) ∨ sh = 7 ∧ (x.Op_ = 22 ∨ x.Op_ = 23) ∨ sh = 8 ∧ x.Op_ = 28) :
    ∃ f, Res f x c m ∧ ∀ H i k, (if (sh == 5) = true then (Ag (Bb H (Ptr.at i 0) x) fun H33 => Cb i 0 H33) else (if (sh == 3) = true then (Eh H i 0 (.at k 0) x sh (sh == 3)) else (if (sh == 1) = true then (Dc H i 0 (.at k 0) x sh (sh == 1)) else (Dc H i 0 (.at k 0) x sh (sh == 7))))) = Ag (f i k H) fun H33 => Cb i 0 H33 := by
  unfold imP at im
  rcases hs with ⟨rfl, h⟩ | ⟨rfl, h⟩ | ⟨rfl, h⟩ | ⟨rfl, h⟩ | ⟨rfl, h⟩ | ⟨rfl, h⟩ | ⟨rfl, h⟩ | ⟨rfl, h⟩ | ⟨rfl, h⟩
  · exact ⟨_, cH I (.inl h) ra rb (by omega), fun H i k => rfl⟩
  · exact ⟨_, Zf I (by omega) ra rb (by omega), fun H i k => rfl⟩
  · exact ⟨_, iO I (by omega) ra rb (by omega) hl, fun H i k => rfl⟩
  · exact ⟨_, Zf I (by omega) ra rb (by omega), fun H i k => rfl⟩
  · exact ⟨_, iO I (by omega) ra rb (by omega) hl, fun H i k => rfl⟩
  · exact ⟨_, kA I h ra rb rd, fun H i k => rfl⟩
  · exact ⟨_, cH I (by omega) ra rb (by omega), fun H i k => rfl⟩
  · exact ⟨_, Zf I (by omega) ra rb (by omega), fun H i k => rfl⟩
  · exact ⟨_, cH I (by omega) ra rb (by omega), fun H i k => rfl⟩
theorem oM (I : Inv c m) (hl : c.Out_.length ≤ 1000) : ∃ c' m', Ge (toR c) (toM m) = some (toR c', toM m') ∧ Inv c' m' ∧ m'.layout_ = m.layout_ ∧ c'.Out_.length ≤ c.Out_.length + 1 ∧
    ∀ i k H, At H i k c m → ∃ H', Ev H (.at i 0) (.at k 0) = some (H', c'.State_) ∧ At H' i k c' m' ∧ Fr H H' i k := by
  unfold Ge
  by_cases s0 : c.State_ = 0
  · obtain ⟨c1, hc1⟩ : ∃ c1 : T_cpu_Cpu, c1 = ⟨c.R_, c.PC_, c.EPC_, c.Cause_, c.State_, c.Why_, IntKind.wrap .i64 (c.Steps_ + 1), c.Taken_, c.Out_, c.setup_, c.input_⟩ := ⟨_, rfl⟩
    have I1 : Inv c1 m := by rw [hc1]; exact ⟨I.regs, I.pc, I.epc, I.ca, I.tk, I.il, I.st, I.ws, I.wl, I.sk⟩
    have l1 : c1.Out_ = c.Out_ := by rw [hc1]
    have p1 : c1.PC_ = c.PC_ := by rw [hc1]
    rw [if_neg (show ¬ ((toR c).State_ != 0) = true by show ¬ (c.State_ != 0) = true; simpa using s0)]
    have e1 : (⟨(toR c).R_, (toR c).PC_, (toR c).EPC_, (toR c).Cause_, (toR c).State_, (toR c).Why_, IntKind.wrap .i64 ((toR c).Steps_ + 1), (toR c).Taken_, (toR c).Out_, (toR c).Entry_, (toR c).Vector_, (toR c).Guard_, (toR c).Limit_, (toR c).Input_⟩ : T_ref04_Cpu) = toR c1 := by rw [hc1]; rfl
    rw [e1]
    show ∃ c' m', Ch (F6 (toM m) c.PC_) _ = _ ∧ _
    rw [oL I.pc I.wl]
    have pg : ∀ i k H, At H i k c m → ∃ H7, At H7 i k c1 m ∧ Fr H H7 i k ∧ Ev H (.at i 0) (.at k 0) = Ch (some (ftV m c.PC_)) fun r10 r11 =>
        if (r11 != 0) = true then (Ag (Bq H7 (Ptr.at i 0) r11) fun H15 => Cb i 0 H15) else (Ch (Kf r10) fun r18 r19 =>
        if (r19 != 0) = true then (Ag (Bq H7 (Ptr.at i 0) r19) fun H23 => Cb i 0 H23) else (Ag (D3 r18.Op_) fun r26 =>
        if (r26 == 5) = true then (Ag (Bb H7 (Ptr.at i 0) r18) fun H33 => Cb i 0 H33) else (if (r26 == 3) = true then (Eh H7 i 0 (.at k 0) r18 r26 (r26 == 3)) else (if (r26 == 1) = true then (Dc H7 i 0 (.at k 0) r18 r26 (r26 == 1)) else (Dc H7 i 0 (.at k 0) r18 r26 (r26 == 7)))))) := fun i k H A => by
      obtain ⟨A1, f1⟩ := A.setC c1
      refine ⟨_, A1, f1, ?_⟩
      rw [← gG A1 I.pc I1.wl]
      unfold Ev
      rw [Bd, A.c, Aa, if_neg (by simpa using s0), Di, hc1]; rfl
    have fl : ∀ e i k H, At H i k c m → ∀ H7, At H7 i k c1 m → Fr H H7 i k → ∃ H', (Ag (Bq H7 (Ptr.at i 0) e) fun H15 => Cb i 0 H15) = some (H', (N1 c1 e).State_) ∧ At H' i k (N1 c1 e) m ∧ Fr H H' i k := fun e i k H A H7 A7 f7 => by
      obtain ⟨H1, e1, A1, f1⟩ := Rp e H7 A7
      refine ⟨H1, ?_, A1, f7.trans f1⟩
      have e1 : Bq H7 (.at i 0) e = some H1 := e1
      rw [e1, Aa]
      unfold Cb
      rw [A1.c]; rfl
    obtain ⟨w, e, hw⟩ : ∃ w e, ftV m c.PC_ = (w, e) := ⟨_, _, rfl⟩
    have uw : u32 w := by have := oK I c.PC_; rw [hw] at this; exact this
    rw [hw] at pg ⊢
    by_cases e0 : e = 0
    · rw [Ax, if_neg (by simpa using e0)]
      unfold u32 at uw
      obtain ⟨sh, hs, hr, hd⟩ := mO (op := w / 16777216) (by omega) (by omega)
      have h128 : sh ≠ -1 → w / 16777216 < 128 := by omega
      have sr : shR sh := by unfold shR; omega
      rw [sR uw.1 uw.2 hr sr h128]
      have pd := sQ uw.1 uw.2 hs sr h128
      by_cases ok : Zt w sh
      · rw [if_pos ok] at pd ⊢
        rw [Ax, if_neg (by simp)]
        obtain ⟨q0, q1, q2, q3, q4, q5, q6, q7⟩ := dY (sh := sh) uw.1 uw.2
        have hd : _ := hd.resolve_left ok.1
        rw [← q0] at hd
        obtain ⟨f, ⟨c', m', r1, r2, r3, r4, r5⟩, hf⟩ := mU (m := m) I1 (by rw [l1]; exact hl) ⟨q1, q2⟩ ⟨q3, q4⟩ ⟨q5, q6⟩ (mQ uw.1 sr ok.1) hd
        refine ⟨c', m', ?_, r2, r3, by rw [l1] at r4; exact r4, fun i k H A => ?_⟩
        · show Ch (Cg (toR c1) (toM m) (toI (dvI w sh))) _ = _
          rw [r1]; rfl
        · obtain ⟨H7, A7, f7, pe⟩ := pg i k H A
          obtain ⟨H1, e1, A1, f1⟩ := r5 i k H7 A7
          refine ⟨H1, ?_, A1, f7.trans f1⟩
          rw [pe, Ax, if_neg (by simpa using e0), pd, Ax, if_neg (by simp), q0, hs, Aa, hf, e1, Aa]
          unfold Cb
          rw [A1.c]; rfl
      · rw [if_neg ok] at pd ⊢
        rw [Ax, if_pos (by simp)]
        refine ⟨N1 c1 21, m, rfl, I1.fault _, rfl, by show c1.Out_.length ≤ _; rw [l1]; omega, fun i k H A => ?_⟩
        obtain ⟨H7, A7, f7, pe⟩ := pg i k H A
        rw [pe, Ax, if_neg (by simpa using e0), pd, Ax, if_pos (by simp)]
        exact fl _ i k H A H7 A7 f7
    · rw [Ax, if_pos (by simpa using e0)]
      refine ⟨N1 c1 e, m, rfl, I1.fault _, rfl, by show c1.Out_.length ≤ _; rw [l1]; omega, fun i k H A => ?_⟩
      obtain ⟨H7, A7, f7, pe⟩ := pg i k H A
      rw [pe, Ax, if_pos (by simpa using e0)]
      exact fl _ i k H A H7 A7 f7
  · rw [if_pos (show ((toR c).State_ != 0) = true by show (c.State_ != 0) = true; simpa using s0)]
    refine ⟨c, m, rfl, I, rfl, by omega, fun i k H A => ⟨H, ?_, A, Fr.refl _ _ _⟩⟩
    unfold Ev
    rw [Bd, A.c, Aa, if_pos (by simpa using s0)]
end
end Go.Proofs.Abs
namespace Go.Proofs.Abs
open Go
set_option linter.unusedVariables false
set_option linter.unusedSimpArgs false
theorem oN {c d : T_cpu_Cpu} (h : toR c = toR d) : c = d := by
  obtain ⟨R, a, b, e, f, g, k, l, o, ⟨s1, s2, s3, s4⟩, n⟩ := c
  obtain ⟨R', a', b', e', f', g', k', l', o', ⟨s1', s2', s3', s4'⟩, n'⟩ := d
  simp only [toR, T_ref04_Cpu.mk.injEq] at h
  obtain ⟨rfl, rfl, rfl, rfl, rfl, rfl, rfl, rfl, rfl, rfl, rfl, rfl, rfl, rfl⟩ := h
  rfl
theorem oO {m n : T_memory_Mem} (h : toM m = toM n) : m = n := by
  obtain ⟨⟨a, b, c, d, e⟩, w⟩ := m
  obtain ⟨⟨a', b', c', d', e'⟩, w'⟩ := n
  simp only [toM, T_ref03_Mem.mk.injEq, Vv] at h
  obtain ⟨h, rfl⟩ := h
  have g : ∀ q, (Ho [a, b, c, d, e] : Arr 5 Int).g q = (Ho [a', b', c', d', e'] : Arr 5 Int).g q := fun q => by rw [h]
  have g0 : a = a' := g 0
  have g1 : b = b' := g 1
  have g2 : c = c' := g 2
  have g3 : d = d' := g 3
  have g4 : e = e' := g 4
  rw [g0, g1, g2, g3, g4]
def Uv (q : T_cpu_Cpu × T_memory_Mem) (n : Nat) : Prop := Inv q.1 q.2 ∧ q.1.Out_.length + n ≤ 1001
structure StepP (q r : T_cpu_Cpu × T_memory_Mem) : Prop where
  ref : Ge (toR q.1) (toM q.2) = some (toR r.1, toM r.2)
  inv : Inv r.1 r.2
  lay : r.2.layout_ = q.2.layout_
  out : r.1.Out_.length ≤ q.1.Out_.length + 1
  run : ∀ i k H, At H i k q.1 q.2 → ∃ H', Ev H (.at i 0) (.at k 0) = some (H', r.1.State_) ∧ At H' i k r.1 r.2 ∧ Fr H H' i k
open Classical in
noncomputable def nx (q : T_cpu_Cpu × T_memory_Mem) : T_cpu_Cpu × T_memory_Mem := if h : ∃ r, StepP q r then h.choose else q
noncomputable def nxn : Nat → T_cpu_Cpu × T_memory_Mem → T_cpu_Cpu × T_memory_Mem
  | 0, q => q
  | n + 1, q => nxn n (nx q)
theorem aW {q : T_cpu_Cpu × T_memory_Mem} {n : Nat} (G : Uv q (n + 1)) : StepP q (nx q) ∧ Uv (nx q) n := by
  obtain ⟨c', m', h1, h2, h3, h4, h5⟩ := oM G.1 (by have := G.2; omega)
  have h : ∃ r, StepP q r := ⟨(c', m'), ⟨h1, h2, h3, h4, h5⟩⟩
  have e : nx q = h.choose := by unfold nx; rw [dif_pos h]
  have P := h.choose_spec
  rw [← e] at P
  exact ⟨P, P.inv, by have := P.out; have := G.2; omega⟩
theorem mV {q r : T_cpu_Cpu × T_memory_Mem} {n : Nat} (G : Uv q (n + 1)) (h : Ge (toR q.1) (toM q.2) = some (toR r.1, toM r.2)) : nx q = r := by
  have P := (aW G).1.ref
  rw [h] at P
  simp only [Option.some.injEq, Prod.mk.injEq] at P
  exact Prod.ext (oN P.1).symm (oO P.2).symm
theorem oP {q : T_cpu_Cpu × T_memory_Mem} {n : Nat} (G : Uv q (n + 1)) (h : q.1.State_ ≠ 0) : nx q = q := by
  refine mV G ?_
  unfold Ge
  rw [if_pos (show ((toR q.1).State_ != 0) = true by show (q.1.State_ != 0) = true; simpa using h)]
theorem Zg {q : T_cpu_Cpu × T_memory_Mem} : ∀ {n : Nat}, Uv q n → q.1.State_ ≠ 0 → nxn n q = q
  | 0, G, h => rfl
  | n + 1, G, h => by
    show nxn n (nx q) = q
    rw [oP G h]
    exact Zg ⟨G.1, by have := G.2; omega⟩ h
theorem eD {b : Nat} : ∀ {a : Nat} {q : T_cpu_Cpu × T_memory_Mem}, Uv q (a + b) → Uv (nxn a q) b ∧ (nxn a q).2.layout_ = q.2.layout_
  | 0, q, G => ⟨by rw [Nat.zero_add] at G; exact G, rfl⟩
  | a + 1, q, G => by
    obtain ⟨P, G1⟩ := aW (n := a + b) (q := q) (by rw [show a + b + 1 = a + 1 + b by omega]; exact G)
    obtain ⟨h1, h2⟩ := eD G1
    exact ⟨h1, h2.trans P.lay⟩
theorem eE {i k : Nat} {p : Int} (hp : p ≤ 1000) : ∀ (n : Nat) (a : Int) (q : T_cpu_Cpu × T_memory_Mem) (H : Ai), 0 ≤ a → a + n = p → Uv q n → At H i k q.1 q.2 →
    ∃ H', Gg (fun (x : (Int × Ai)) => D4 p (.at i 0) (.at k 0) x.1 x.2) (a, H) = some H' ∧ At H' i k (nxn n q).1 (nxn n q).2 ∧ Fr H H' i k
  | 0, a, q, H, h0, h1, G, A => by
    refine ⟨H, Mp ?_, A, Fr.refl _ _ _⟩
    show D4 p (.at i 0) (.at k 0) a H = _
    unfold D4
    rw [if_neg (by simp; split <;> omega)]
  | n + 1, a, q, H, h0, h1, G, A => by
    obtain ⟨P, G1⟩ := aW G
    obtain ⟨H1, e1, A1, f1⟩ := P.run i k H A
    have e : D4 p (.at i 0) (.at k 0) a H = if ((nx q).1.State_ != 0) = true then some (Sum.inr H1) else some (Sum.inl (a + 1, H1)) := by
      unfold D4
      rw [if_pos (by simp; split <;> omega), e1, Ax, Au (a + 1) (by omega) (by omega)]
    by_cases s : (nx q).1.State_ = 0
    · rw [if_neg (by simpa using s)] at e
      obtain ⟨H2, e2, A2, f2⟩ := eE hp n (a + 1) (nx q) H1 (by omega) (by omega) G1 A1
      exact ⟨H2, (Py e).trans e2, A2, f1.trans f2⟩
    · rw [if_pos (by simpa using s)] at e
      refine ⟨H1, Mp e, ?_, f1⟩
      show At H1 i k (nxn n (nx q)).1 (nxn n (nx q)).2
      rw [Zg G1 s]; exact A1
theorem pY {i k : Nat} {H : Ai} {q : T_cpu_Cpu × T_memory_Mem} {n : Nat} (hn : n ≤ 1000) (G : Uv q n) (A : At H i k q.1 q.2) : ∃ H', Lg H (.at i 0) (.at k 0) n = some (H', (nxn n q).1.State_) ∧ At H' i k (nxn n q).1 (nxn n q).2 ∧ Fr H H' i k := by
  obtain ⟨H1, e1, A1, f1⟩ := eE (p := n) (by omega) n 0 q H (by omega) (by omega) G A
  refine ⟨H1, ?_, A1, f1⟩
  unfold Lg
  rw [e1, Aa, Bd, A1.c]; rfl
/-! frames -/
theorem At.far {H H' : Ai} {i k i' k' : Nat} {c : T_cpu_Cpu} {m : T_memory_Mem} (A : At H i k c m) (f : Fr H H' i' k') (h1 : i ≠ i') (h2 : i ≠ k') (h3 : k ≠ i') (h4 : k ≠ k') : At H' i k c m :=
  ⟨Pz Qt (by rw [f i h1 h2]; exact A8 A.c), Pz M1 (by rw [f k h3 h4]; exact A8 A.m), A.ne⟩
/-! the same -/
theorem mW {H : Ai} {i k : Nat} {c : T_cpu_Cpu} {m : T_memory_Mem} (A : At H i k c m) (hl : c.Out_.length ≤ 1001) : Oy H (.at i 0) (toR c) = some true := by
  have loop : ∀ (n : Nat) (a : Int), 0 ≤ a → a + n = c.Out_.length → Gg (fun x : Int => Gf (toR c) c x) a = some (.inl ()) := fun n => by
    induction n with
    | zero =>
      intro a h0 h1
      refine Mp ?_
      unfold Gf
      rw [if_neg (by show ¬ decide (a < (c.Out_.length : Int)) = true; simp; omega)]
    | succ n ih =>
      intro a h0 h1
      have e : Gf (toR c) c a = some (.inl (a + 1)) := by
        unfold Gf
        rw [if_pos (by show decide (a < (c.Out_.length : Int)) = true; simp; omega), Qo h0 (by omega), Aa]
        show Ag (gi c.Out_ a) _ = _
        rw [Qo h0 (by omega), Aa, if_neg (by simp [Qp]), Au (a + 1) (by omega) (by omega)]
      rw [Py e]
      exact ih (a + 1) (by omega) (by omega)
  unfold Oy
  rw [Bd, A.c, Aa, if_neg (by simp [toR, Bu]), loop c.Out_.length 0 (by omega) (by omega), Aa, Rm]
theorem mX {H : Ai} {i k : Nat} {c : T_cpu_Cpu} {m : T_memory_Mem} (A : At H i k c m) (I : Inv c m) : Mv H (.at k 0) (toM m) = some true := by
  have wl := I.wl
  have sk := I.sk
  have loop : ∀ (n : Nat) (a : Int), 0 ≤ a → a + n = m.words_.length → Gg (fun x : Int => Fc (toM m) H (.at k 0) x) a = some (.inl ()) := fun n => by
    induction n with
    | zero =>
      intro a h0 h1
      refine Mp ?_
      unfold Fc
      rw [if_neg (by show ¬ decide (a < (m.words_.length : Int)) = true; simp; omega)]
    | succ n ih =>
      intro a h0 h1
      have e : Fc (toM m) H (.at k 0) a = some (.inl (a + 1)) := by
        unfold Fc
        rw [if_pos (by show decide (a < (m.words_.length : Int)) = true; simp; omega), Au (4 * a) (by omega) (by omega), Cl (4 * a) (by omega) (by omega), aV A (by unfold u32; omega) wl, aU (by omega) (by omega), Ax, if_neg (by simp)]
        show Ag (Ag (gi m.words_ a) _) _ = _
        have ha : a.toNat < m.words_.length := by omega
        rw [Qo h0 (by omega), Aa, Aa, if_neg (by rw [show 4 * a / 4 = a by omega]; simp [ha]), Au (a + 1) (by omega) (by omega)]
      rw [Py e]
      exact ih (a + 1) (by omega) (by omega)
  unfold Mv Jh Kx
  rw [Bd, A.m, Aa, Aa, Aa, if_neg (by simp [toM, Vv, Ph])]
  show Ag (Gg (fun x : Int => Fc (toM m) H (.at k 0) x) 0) _ = _
  rw [loop m.words_.length 0 (by omega) (by omega), Aa, Rm]
/-! memories, made and filled -/
theorem mY {n : Int} (h0 : 0 ≤ n) (h1 : n ≤ 262144) : mks 4 n n (0 : Int) = some (List.replicate n.toNat 0) := by
  unfold mks
  rw [if_pos ⟨by omega, by omega, by have := Zc; omega, by omega⟩]
theorem iP {L : T_memory_Layout} (H : Ai) (hr : O0 L = true) : Kw H L = some (Dk H ⟨L, List.replicate (L.Stack_ / 4).toNat 0⟩, .at H.length 0, 0) ∧ Od (Vv L) = some (toM ⟨L, List.replicate (L.Stack_ / 4).toNat 0⟩) := by
  have R := rt5 hr
  have h0 : 0 ≤ L.Stack_ := by have := R.c0; have := R.c1; have := R.c2; have := R.c3; have := R.c4; omega
  have hm := R.m
  constructor
  · unfold Kw
    rw [gB, Aa, hr, if_neg (by simp), Jm h0, Cl _ (by omega) (by omega), mY (by omega) (by omega), Aa, Di, Di]
  · unfold Od
    have e : (Vv L).g 4 = L.Stack_ := rfl
    rw [e, Jm h0, Cl _ (by omega) (by omega), mY (by omega) (by omega), Aa]; rfl
theorem eF {H : Ai} {k : Nat} {m : T_memory_Mem} {p : Int} {l : List Int} (hg : Cr H k 0 = some m) (hk : (m.words_.length : Int) * 4 = m.layout_.Stack_) (sk : m.layout_.Stack_ ≤ 1048576) (h0 : 0 ≤ p) (h4 : p % 4 = 0) (hl : p / 4 + l.length ≤ m.words_.length) :
    Db H (.at k 0) p l = some (Dj H k 0 ⟨m.layout_, A4 m.words_ (p / 4).toNat l⟩, 0) ∧ Ov (toM m) p l = some (toM ⟨m.layout_, A4 m.words_ (p / 4).toNat l⟩, 0) := by
  constructor
  · unfold Db
    rw [Fh h0, if_neg (by simpa using h4), Bd, hg, Aa, Jm h0, Cl (p / 4) (by omega) (by omega), Cl (m.layout_.Stack_ - p) (by omega) (by omega), Yz (m.layout_.Stack_ - p) (by omega) (by omega), Jm (by omega), Yz ((m.layout_.Stack_ - p) / 4) (by omega) (by omega), Yz (l.length : Int) (by omega) (by omega), if_neg (by simp; omega)]
    have hcut : cut m.words_ (p / 4) m.words_.length = some (m.words_.drop (p / 4).toNat) := by
      unfold cut
      rw [if_pos ⟨by omega, by omega, by omega⟩]
      simp
    have hc : cpy m.words_ (p / 4).toNat l = A4 m.words_ (p / 4).toNat l := by
      unfold cpy
      rw [List.take_of_length_le (by omega)]
    rw [hcut, Aa, hc, Di, Di]
  · unfold Ov
    have e : (toM m).W_ = m.words_ := rfl
    rw [Fh h0, if_neg (by simpa using h4), e, Jm h0, Cl (p / 4) (by omega) (by omega), Au (p / 4) (by omega) (by omega), Au (p / 4 + (l.length : Int)) (by omega) (by omega), if_neg (by simp; omega)]
    show Ag (Ei ⟨Vv m.layout_, m.words_⟩ (p / 4) l) _ = _
    rw [aR (p / 4) l (by omega) hl (by omega), Aa]; rfl
theorem iQ {H : Ai} {S : T_cpu_Setup} {l : List Int} (hl : l.length ≤ 100) : N8 H S l = some (Lc H ⟨Ho [0, 0, 0, 0, 0, 0, 0, 0, 0, 0, 0, 0, 0, 0, 0, 0], S.Entry_, 0, 0, 0, 0, 0, 0, [], S, l⟩, .at H.length 0) := by
  unfold N8
  rw [Ur (by simp; omega), Aa, Di, Di]; rfl
end Go.Proofs.Abs
namespace Go.Proofs.Abs
open Go Go.Proofs
set_option linter.unusedVariables false
set_option maxRecDepth 100000
set_option maxHeartbeats 0
def P4 (x : T_memory_Layout) : Prop := (fun n => (Lit.int .u32 n).wf = true) x.Code_ ∧ (fun n => (Lit.int .u32 n).wf = true) x.Tables_ ∧ (fun n => (Lit.int .u32 n).wf = true) x.Data_ ∧ (fun n => (Lit.int .u32 n).wf = true) x.Heap_ ∧ (fun n => (Lit.int .u32 n).wf = true) x.Stack_
theorem Sp : Uh Try.prog 92 Vy P4 := fun H enc w fuel cs x h => by
  obtain ⟨xs, n, _, _, hl, hxl, hp⟩ := DataW.trod_struct Try.underlying92 h
  have hl : cs.length = 5 := by rw [hl]; kernel_rfl
  obtain ⟨a0, w0, r0⟩ := Jg (i := 0) rfl hxl hp (Fp Try.underlying35)
  obtain ⟨a1, w1, r1⟩ := Jg (i := 1) rfl hxl hp (Fp Try.underlying35)
  obtain ⟨a2, w2, r2⟩ := Jg (i := 2) rfl hxl hp (Fp Try.underlying35)
  obtain ⟨a3, w3, r3⟩ := Jg (i := 3) rfl hxl hp (Fp Try.underlying35)
  obtain ⟨a4, w4, r4⟩ := Jg (i := 4) rfl hxl hp (Fp Try.underlying35)
  exact ⟨⟨a0, a1, a2, a3, a4⟩, ⟨w0, w1, w2, w3, w4⟩, (Dd (o := 0) (z := 1) r0 (Dd (o := 1) (z := 1) r1 (Dd (o := 2) (z := 1) r2 (Dd (o := 3) (z := 1) r3 (Dd (o := 4) (z := 1) r4 (Rz (o := 5) (by rw [hl]; exact Nat.le_refl _)))))))⟩
def Uw (x : T_cpu_Setup) : Prop := (fun n => (Lit.int .u32 n).wf = true) x.Entry_ ∧ (fun n => (Lit.int .u32 n).wf = true) x.Vector_ ∧ (fun n => (Lit.int .u32 n).wf = true) x.Guard_ ∧ (fun n => (Lit.int .u32 n).wf = true) x.Limit_
theorem Wi : Uh Try.prog 94 dT Uw := fun H enc w fuel cs x h => by
  obtain ⟨xs, n, _, _, hl, hxl, hp⟩ := DataW.trod_struct Try.underlying94 h
  have hl : cs.length = 4 := by rw [hl]; kernel_rfl
  obtain ⟨a0, w0, r0⟩ := Jg (i := 0) rfl hxl hp (Fp Try.underlying35)
  obtain ⟨a1, w1, r1⟩ := Jg (i := 1) rfl hxl hp (Fp Try.underlying35)
  obtain ⟨a2, w2, r2⟩ := Jg (i := 2) rfl hxl hp (Fp Try.underlying35)
  obtain ⟨a3, w3, r3⟩ := Jg (i := 3) rfl hxl hp (Fp Try.underlying35)
  exact ⟨⟨a0, a1, a2, a3⟩, ⟨w0, w1, w2, w3⟩, (Dd (o := 0) (z := 1) r0 (Dd (o := 1) (z := 1) r1 (Dd (o := 2) (z := 1) r2 (Dd (o := 3) (z := 1) r3 (Rz (o := 4) (by rw [hl]; exact Nat.le_refl _))))))⟩
def Kq (x : T_law04_Case) : Prop := P4 x.L_ ∧ Uw x.S_ ∧ (fun xs => (∀ x, x ∈ xs → (fun n => (Lit.int .u32 n).wf = true) x) ∧ xs.length ≤ maxLen) x.Words_ ∧ (fun a => ∀ x, x ∈ a.l → (fun n => (Lit.int .u32 n).wf = true) x) x.R_ ∧ (fun xs => (∀ x, x ∈ xs → (fun n => (Lit.int .i32 n).wf = true) x) ∧ xs.length ≤ maxLen) x.Input_
theorem opens_law04_Case : Uh Try.prog 96 bU Kq := fun H enc w fuel cs x h => by
  obtain ⟨xs, n, _, _, hl, hxl, hp⟩ := DataW.trod_struct Try.underlying96 h
  have hl : cs.length = 27 := by rw [hl]; kernel_rfl
  obtain ⟨a0, w0, r0⟩ := Jg (i := 0) rfl hxl hp Sp
  obtain ⟨a1, w1, r1⟩ := Jg (i := 1) rfl hxl hp Wi
  obtain ⟨a2, w2, r2⟩ := Jg (i := 2) rfl hxl hp (Vu (z := 1) Try.underlying42 (by kernel_rfl) (by kernel_rfl) (fun _ => rfl) (Fp Try.underlying35))
  obtain ⟨a3, w3, r3⟩ := Jg (i := 3) rfl hxl hp (jX (z := 1) Try.underlying46 (by kernel_rfl) (by kernel_rfl) (Fp Try.underlying35))
  obtain ⟨a4, w4, r4⟩ := Jg (i := 4) rfl hxl hp (Vu (z := 1) Try.underlying48 (by kernel_rfl) (by kernel_rfl) (fun _ => rfl) (Fp Try.underlying21))
  exact ⟨⟨a0, a1, a2, a3, a4⟩, ⟨w0, w1, w2, w3, w4⟩, (Dd (o := 0) (z := 5) r0 (Dd (o := 5) (z := 4) r1 (Dd (o := 9) (z := 1) r2 (Dd (o := 10) (z := 16) r3 (Dd (o := 26) (z := 1) r4 (Rz (o := 27) (by rw [hl]; exact Nat.le_refl _)))))))⟩
def CpuStepsPure : Prop := ∀ (p0 : T_law04_Case), Kq p0 → ∃ Hr, Ly [] p0 = some (Hr, true)
end Go.Proofs.Abs
namespace Go.Proofs.Abs
open Go
set_option linter.unusedVariables false
set_option linter.unusedSimpArgs false
/-! the page's example -/
def awC (n : Int) : T_cpu_Cpu := ⟨Ho [0, n, 0, 0, 0, 0, 0, 0, 0, 0, 0, 0, 0, 0, 0, 0], 0, 0, 0, 0, 0, 0, 0, [], ⟨0, 0, 0, 0⟩, []⟩
def awL : T_memory_Layout := ⟨16, 16, 16, 16, 32⟩
def awM : T_memory_Mem := ⟨awL, A4 (List.replicate (32 / 4 : Int).toNat 0) (0 / 4 : Int).toNat [34603013, 16777216]⟩
theorem mZ (H : Ai) : ∃ H', Ni H = some (H', true) := by
  obtain ⟨n1, _⟩ := iP (L := awL) H (by kernel_rfl)
  have e1 : Dl ⟨2, 1, 0, 0, 5⟩ = some (34603013, 0) := by kernel_rfl
  have e2 : Dl ⟨1, 0, 0, 0, 0⟩ = some (16777216, 0) := by kernel_rfl
  have d1 : F9 34603013 = some (⟨2, 1, 0, 0, 5⟩, 0) := by rw [cB]; kernel_rfl
  have d2 : F9 16777216 = some (⟨1, 0, 0, 0, 0⟩, 0) := by rw [cB]; kernel_rfl
  have g1 : Cr (Dk H ⟨awL, List.replicate (32 / 4 : Int).toNat 0⟩) H.length 0 = some ⟨awL, List.replicate (32 / 4 : Int).toNat 0⟩ := Wv M1 Ww H _
  obtain ⟨f1, _⟩ := eF (l := [34603013, 16777216]) (p := 0) g1 (by decide) (by decide) (by decide) (by decide) (by decide)
  obtain ⟨H2, hH2⟩ : ∃ H2, H2 = Dj (Dk H ⟨awL, List.replicate (32 / 4 : Int).toNat 0⟩) H.length 0 awM := ⟨_, rfl⟩
  have g2 : Cr H2 H.length 0 = some awM := by rw [hH2]; exact bT M1 Ww g1 _
  have len : H2.length = H.length + 1 := by rw [hH2]; simp [Dj, Dk, dR]
  have A : At (Lc H2 (awC 0)) H2.length H.length (awC 0) awM := ⟨Wv Qt cC H2 _, R5 M1 g2, by omega⟩
  have G : Uv (awC 0, awM) 9 := by
    refine ⟨⟨?_, ⟨by decide, by decide⟩, ⟨by decide, by decide⟩, ⟨by decide, by decide⟩, ⟨by decide, by decide⟩, by decide, ⟨⟨by decide, by decide⟩, ⟨by decide, by decide⟩, ⟨by decide, by decide⟩⟩, ?_, by decide, by decide⟩, by decide⟩
    · have z : ∀ q, q < 16 → (awC 0).R_.g q = 0 := by decide
      intro q hq
      show u32 ((awC 0).R_.g q)
      rw [z q hq]; exact ⟨by decide, by decide⟩
    · have z : ∀ x ∈ awM.words_, 0 ≤ x ∧ x < 4294967296 := by decide
      exact z
  obtain ⟨q1, hq1⟩ : ∃ q1 : T_cpu_Cpu × T_memory_Mem, q1 = (⟨(awC 5).R_, 4, 0, 0, 0, 0, 1, 0, [], ⟨0, 0, 0, 0⟩, []⟩, awM) := ⟨_, rfl⟩
  obtain ⟨q2, hq2⟩ : ∃ q2 : T_cpu_Cpu × T_memory_Mem, q2 = (⟨(awC 5).R_, 4, 0, 0, 1, 0, 2, 0, [], ⟨0, 0, 0, 0⟩, []⟩, awM) := ⟨_, rfl⟩
  have s1 : nx (awC 0, awM) = q1 := mV G (by
    unfold Ge
    rw [if_neg (by decide), show F6 (toM awM) (toR (awC 0)).PC_ = some (34603013, 0) by kernel_rfl, Ax, if_neg (by decide), d1, Ax, if_neg (by decide), hq1]
    kernel_rfl)
  have G1 : Uv q1 8 := by rw [← s1]; exact (aW G).2
  have s2 : nx q1 = q2 := mV G1 (by
    rw [hq1]
    unfold Ge
    rw [if_neg (by decide)]
    show Ch (F6 (toM awM) 4) _ = _
    rw [show F6 (toM awM) 4 = some (16777216, 0) by kernel_rfl, Ax, if_neg (by decide), d2, Ax, if_neg (by decide), hq2]
    kernel_rfl)
  have G2 : Uv q2 7 := by rw [← s2]; exact (aW G1).2
  have s3 : nxn 9 (awC 0, awM) = q2 := by
    show nxn 7 (nx (nx (awC 0, awM))) = q2
    rw [s1, s2]
    exact Zg G2 (by rw [hq2]; decide)
  obtain ⟨H3, r1, A3, _⟩ := pY (n := 9) (by omega) G A
  rw [s3, hq2] at A3
  rw [s3, hq2] at r1
  refine ⟨H3, ?_⟩
  unfold Ni
  show Vs (Kw H awL) _ = _
  rw [n1, Qn, if_neg (by simp [Ui]), e1, Ax, e2, Ax]
  show Ch (Db (Dk H ⟨awL, List.replicate (32 / 4 : Int).toNat 0⟩) _ _ _) _ = _
  rw [f1, Ax]
  show Ch (N8 (Dj (Dk H ⟨awL, List.replicate (32 / 4 : Int).toNat 0⟩) H.length 0 awM) _ _) _ = _
  rw [← hH2, iQ (by decide), Ax, if_pos (by simp [Ui])]
  show Ch (Ch (Lg (Lc H2 (awC 0)) (.at H2.length 0) (.at H.length 0) ((9 : Nat) : Int)) _) _ = _
  rw [r1, Ax, if_pos (by rfl), Bd, A3.c]; rfl
/-! begun -/
theorem pZ {p : T_law04_Case} (h : Kq p) : Ms p = some (O0 p.L_ && (decide (p.L_.Stack_ ≤ 4096) && (decide ((p.Words_.length : Int) ≤ 1024) && decide ((p.Input_.length : Int) ≤ 100)))) := by
  unfold Ms
  rw [aP, Aa, dX _ (mL.1 h.1.1).1, Aa]
structure Few (p : T_law04_Case) : Prop where
  wf : Kq p
  r : O0 p.L_ = true
  s : p.L_.Stack_ ≤ 4096
  w : p.Words_.length ≤ 1024
  i : p.Input_.length ≤ 100
theorem kB {p : T_law04_Case} (h : Kq p) : Ms p = some false ∨ Ms p = some true ∧ Few p := by
  rw [pZ h]
  by_cases c : O0 p.L_ = true ∧ p.L_.Stack_ ≤ 4096 ∧ (p.Words_.length : Int) ≤ 1024 ∧ (p.Input_.length : Int) ≤ 100
  · obtain ⟨c1, c2, c3, c4⟩ := c
    exact .inr ⟨by simp [c1, c2]; omega, ⟨h, c1, c2, by omega, by omega⟩⟩
  · refine .inl ?_
    congr 1
    simp only [Bool.and_eq_false_iff, decide_eq_false_iff_not]
    by_cases c1 : O0 p.L_ = true
    · simp only [c1, true_and] at c
      omega
    · exact .inl (by simpa using c1)
def Zu (p : T_law04_Case) : T_cpu_Cpu := ⟨p.R_, p.S_.Entry_, 0, 0, 0, 0, 0, 0, [], p.S_, p.Input_⟩
def U9 (p : T_law04_Case) : T_memory_Mem := ⟨p.L_, A4 (List.replicate (p.L_.Stack_ / 4).toNat 0) (0 / 4 : Int).toNat (p.Words_.take (min (p.L_.Stack_ / 4).toNat p.Words_.length))⟩
theorem kC {xs ys : List Int} {k : Nat} {x : Int} (h : x ∈ A4 xs k ys) : x ∈ xs ∨ x ∈ ys := by
  unfold A4 at h
  simp only [List.mem_append] at h
  rcases h with (h | h) | h
  · exact .inl (List.mem_of_mem_take h)
  · exact .inr h
  · exact .inl (List.mem_of_mem_drop h)
theorem nA {p : T_law04_Case} (F : Few p) : Uv (Zu p, U9 p) 1000 ∧ (U9 p).words_.length = (p.L_.Stack_ / 4).toNat := by
  have R := rt5 F.r
  have h0 : 0 ≤ p.L_.Stack_ := by have := R.c0; have := R.c1; have := R.c2; have := R.c3; have := R.c4; omega
  have d4 := R.d4
  have sk := F.s
  obtain ⟨hL, hS, hW, hR, hI⟩ := F.wf
  have lt : ∀ n : Int, (Lit.int .u32 n).wf = true → u32 n := fun n h => by have := mL.1 h; unfold u32; omega
  have wl : (U9 p).words_.length = (p.L_.Stack_ / 4).toNat := by
    show (A4 _ _ _).length = _
    rw [aL (by simp; omega)]; simp
  have z : u32 0 := ⟨by decide, by decide⟩
  refine ⟨⟨⟨?_, lt _ hS.1, z, z, ⟨by show (0 : Int) ≤ 0; decide, by show (0 : Int) ≤ _; omega⟩, F.i, ⟨lt _ hS.2.1, lt _ hS.2.2.1, lt _ hS.2.2.2⟩, ?_, ?_, sk⟩, by show 0 + 1000 ≤ 1001; omega⟩, wl⟩
  · intro q hq
    have hl := p.R_.h
    show u32 (p.R_.g q)
    have e : p.R_.g q = p.R_.l[q]'(by omega) := by
      unfold Arr.g
      rw [List.getElem?_eq_getElem (by omega)]; rfl
    rw [e]; exact lt _ (hR _ (List.getElem_mem _))
  · intro x hx
    rcases kC hx with h | h
    · rw [List.eq_of_mem_replicate h]; exact ⟨by decide, by decide⟩
    · exact lt _ (hW.1 _ (List.mem_of_mem_take h))
  · show ((U9 p).words_.length : Int) * 4 = p.L_.Stack_
    rw [wl]; omega
theorem nB {p : T_law04_Case} (F : Few p) (H : Ai) : ∃ H', Nj H p = some (H', .at (H.length + 1) 0, .at H.length 0, toR (Zu p), toM (U9 p)) ∧ At H' (H.length + 1) H.length (Zu p) (U9 p) ∧ H.length + 2 ≤ H'.length ∧ ∀ i k c m, At H i k c m → At H' i k c m := by
  obtain ⟨n1, n2⟩ := iP (L := p.L_) H F.r
  have R := rt5 F.r
  have h0 : 0 ≤ p.L_.Stack_ := by have := R.c0; have := R.c1; have := R.c2; have := R.c3; have := R.c4; omega
  have d4 := R.d4
  have sk := F.s
  have wk := F.w
  obtain ⟨m0, hm0⟩ : ∃ m0 : T_memory_Mem, m0 = ⟨p.L_, List.replicate (p.L_.Stack_ / 4).toNat 0⟩ := ⟨_, rfl⟩
  have l0 : m0.words_.length = (p.L_.Stack_ / 4).toNat := by rw [hm0]; simp
  have y0 : m0.layout_ = p.L_ := by rw [hm0]
  rw [← hm0] at n1 n2
  have g1 := Wv M1 Ww H m0
  obtain ⟨H1, hH1⟩ : ∃ H1, H1 = Dk H m0 := ⟨_, rfl⟩
  have len : H1.length = H.length + 1 := by rw [hH1]; simp [Dk]
  have g1 : Cr H1 H.length 0 = some m0 := by rw [hH1]; exact g1
  obtain ⟨c0, hc0⟩ : ∃ c0 : T_cpu_Cpu, c0 = ⟨Ho [0, 0, 0, 0, 0, 0, 0, 0, 0, 0, 0, 0, 0, 0, 0, 0], p.S_.Entry_, 0, 0, 0, 0, 0, 0, [], p.S_, p.Input_⟩ := ⟨_, rfl⟩
  have n3 := iQ (H := H1) (S := p.S_) F.i
  rw [← hc0, len] at n3
  obtain ⟨H2, hH2⟩ : ∃ H2, H2 = Lc H1 c0 := ⟨_, rfl⟩
  rw [← hH2] at n3
  have A : At H2 (H.length + 1) H.length c0 m0 := by rw [hH2, ← len]; exact ⟨Wv Qt cC H1 _, R5 M1 g1, by omega⟩
  obtain ⟨f1, f2⟩ := eF (l := p.Words_.take (min (p.L_.Stack_ / 4).toNat p.Words_.length)) (p := 0) A.m (by rw [l0, y0]; omega) (by rw [y0]; omega) (by decide) (by decide) (by rw [l0]; simp; omega)
  have e1 : (⟨m0.layout_, A4 m0.words_ (0 / 4 : Int).toNat (p.Words_.take (min (p.L_.Stack_ / 4).toNat p.Words_.length))⟩ : T_memory_Mem) = U9 p := by rw [hm0]; rfl
  rw [e1] at f1 f2
  obtain ⟨A1, r1⟩ := A.setM (U9 p)
  obtain ⟨A2, r2⟩ := A1.setC (Zu p)
  refine ⟨_, ?_, A2, ?_, fun i k c m B => ?_⟩
  · unfold Nj
    rw [aP, Aa]
    show Ag (Od (Vv p.L_)) _ = _
    rw [n2, Aa, n1, Qn, ← hH1, n3, Ax, if_neg (by simp [Ui])]
    have hc : cut p.Words_ 0 (if ((toM m0).W_.length : Int) < (p.Words_.length : Int) then ((toM m0).W_.length : Int) else (p.Words_.length : Int)) = some (p.Words_.take (min (p.L_.Stack_ / 4).toNat p.Words_.length)) := by
      have : (toM m0).W_.length = (p.L_.Stack_ / 4).toNat := l0
      rw [this]
      have e : (if (((p.L_.Stack_ / 4).toNat : Nat) : Int) < (p.Words_.length : Int) then (((p.L_.Stack_ / 4).toNat : Nat) : Int) else (p.Words_.length : Int)) = ((min (p.L_.Stack_ / 4).toNat p.Words_.length : Nat) : Int) := by split <;> omega
      rw [e]
      unfold cut
      rw [if_pos ⟨by omega, by omega, by omega⟩]
      simp
    rw [hc, Aa, f1, Ax, f2, Ax, Bd, A1.c, Aa, Di, hc0]; rfl
  · simp [Bj, Dj, dR, hH2, Lc, len]
  · have hi := mM B.c
    have hk := mM B.m
    have B2 : At H2 i k c m := by
      rw [hH2, hH1]
      exact ⟨R5 Qt (R5 Qt B.c), R5 M1 (R5 M1 B.m), B.ne⟩
    exact (B2.far r1 (by omega) (by omega) (by omega) (by omega)).far r2 (by omega) (by omega) (by omega) (by omega)
end Go.Proofs.Abs
namespace Go.Proofs.Abs
open Go
set_option linter.unusedVariables false
set_option linter.unusedSimpArgs false
theorem Zh {i k : Nat} : ∀ (n : Nat) (a : Int) (q : T_cpu_Cpu × T_memory_Mem) (H : Ai), 0 ≤ a → a + n = 60 → Uv q n → At H i k q.1 q.2 →
    ∃ H', Gg (fun (x : (Int × T_ref04_Cpu × T_ref03_Mem × Ai)) => C6 (.at i 0) (.at k 0) x.1 x.2.1 x.2.2.1 x.2.2.2) (a, toR q.1, toM q.2, H) = some (.inl (toM (nxn n q).2, H')) ∧ At H' i k (nxn n q).1 (nxn n q).2
  | 0, a, q, H, h0, h1, G, A => by
    refine ⟨H, Mp ?_, A⟩
    show C6 (.at i 0) (.at k 0) a (toR q.1) (toM q.2) H = _
    unfold C6
    rw [if_neg (by simp; omega)]; rfl
  | n + 1, a, q, H, h0, h1, G, A => by
    obtain ⟨P, G1⟩ := aW G
    obtain ⟨H1, e1, A1, f1⟩ := P.run i k H A
    have e : C6 (.at i 0) (.at k 0) a (toR q.1) (toM q.2) H = some (.inl (a + 1, toR (nx q).1, toM (nx q).2, H1)) := by
      unfold C6
      rw [if_pos (by simp; omega), P.ref, Ax, e1, Ax, if_neg (by simp [toR]), mW A1 (by have := G1.2; omega), Aa, Aa, if_neg (by simp), Au (a + 1) (by omega) (by omega)]
    obtain ⟨H2, e2, A2⟩ := Zh n (a + 1) (nx q) H1 (by omega) (by omega) G1 A1
    exact ⟨H2, (Py e).trans e2, A2⟩
theorem CpuSteps_holds : CpuStepsPure := fun p h => by
  obtain ⟨H1, e1⟩ := mZ []
  unfold Ly
  rw [e1, Ax, if_neg (by simp)]
  rcases kB h with hf | ⟨hf, F⟩
  · rw [hf, Aa, if_pos (by rfl)]; exact ⟨_, rfl⟩
  · obtain ⟨H2, e2, A2, _⟩ := nB F H1
    have G := (nA F).1
    obtain ⟨H3, e3, A3⟩ := Zh 60 0 (Zu p, U9 p) H2 (by omega) (by omega) ⟨G.1, by have := G.2; omega⟩ A2
    have G3 := (eD (a := 60) (b := 0) (q := (Zu p, U9 p)) ⟨G.1, by have := G.2; omega⟩).1
    rw [hf, Aa, if_neg (by simp), e2, fX, Ui, if_neg (by simp)]
    unfold M0
    rw [Bd, A2.c, Aa, Aa, Aa, if_neg (by simp [Zu, N7])]
    show ∃ Hr, Ag (Gg _ (0, toR (Zu p, U9 p).1, toM (Zu p, U9 p).2, H2)) _ = _
    rw [e3, Aa, Rm]
    show ∃ Hr, Ag (Mv H3 (.at H1.length 0) (toM (nxn 60 (Zu p, U9 p)).2)) _ = _
    rw [mX A3 G3.1, Aa]
    exact ⟨_, rfl⟩
end Go.Proofs.Abs
