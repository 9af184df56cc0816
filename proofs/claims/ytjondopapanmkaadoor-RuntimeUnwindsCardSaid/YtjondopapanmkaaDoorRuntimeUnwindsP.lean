/- The law RuntimeUnwinds: whatever the input, it answers true. No conditions. (Part RuntimeUnwindsP of its proof.) -/
import Derived.Test.YtjondopapanmkaaDoorRuntimeUnwindsF1
import Derived.Lib.SplitLaws
set_option linter.unusedVariables false
set_option linter.unusedSimpArgs false
set_option linter.unusedSectionVars false
/- Bits of words, as numbers. -/
namespace Go.Proofs.Abs
open Go
set_option linter.unusedVariables false
set_option linter.unusedSimpArgs false
theorem ofInt_nat (a : Nat) (h : a < 4294967296) : (BitVec.ofInt 32 (a : Int)).toNat = a := by
  rw [BitVec.toNat_ofInt]
  have : ((a : Int) % ((2 ^ 32 : Nat) : Int)) = (a : Int) := Int.emod_eq_of_lt (by omega) (by simp; omega)
  rw [this]; simp
theorem or_nat (a b : Nat) (ha : a < 4294967296) (hb : b < 4294967296) : bitsOf .or .u32 (a : Int) (b : Int) = ((a ||| b : Nat) : Int) := by
  have h : a ||| b < 4294967296 := Nat.or_lt_two_pow (n := 32) ha hb
  show IntKind.u32.wrap ((BitVec.ofInt 32 (a : Int) ||| BitVec.ofInt 32 (b : Int)).toNat : Int) = _
  rw [BitVec.toNat_or, ofInt_nat a ha, ofInt_nat b hb, wrap_u32 _ (by omega) (by omega)]
theorem and_nat (a b : Nat) (ha : a < 4294967296) (hb : b < 4294967296) : bitsOf .and .u32 (a : Int) (b : Int) = ((a &&& b : Nat) : Int) := by
  have h : a &&& b < 4294967296 := Nat.lt_of_le_of_lt Nat.and_le_left ha
  show IntKind.u32.wrap ((BitVec.ofInt 32 (a : Int) &&& BitVec.ofInt 32 (b : Int)).toNat : Int) = _
  rw [BitVec.toNat_and, ofInt_nat a ha, ofInt_nat b hb, wrap_u32 _ (by omega) (by omega)]
theorem or_part (k : Nat) (x b : Int) (h0 : 0 ≤ x) (hb0 : 0 ≤ b) (hb : b < 2 ^ k) (h : x * 2 ^ k + b < 4294967296) : bitsOf .or .u32 (x * 2 ^ k) b = x * 2 ^ k + b := by
  obtain ⟨m, rfl⟩ : ∃ m : Nat, x = m := ⟨x.toNat, by omega⟩
  obtain ⟨n, rfl⟩ : ∃ n : Nat, b = n := ⟨b.toNat, by omega⟩
  have hn : n < 2 ^ k := by exact_mod_cast hb
  have e0 : ((m : Int) * 2 ^ k + n) = ((m * 2 ^ k + n : Nat) : Int) := by simp
  rw [e0] at h
  have hs : m * 2 ^ k + n < 4294967296 := Int.ofNat_lt.1 h
  clear h e0
  have e : ((m : Int) * 2 ^ k) = ((m * 2 ^ k : Nat) : Int) := by simp
  rw [e, or_nat _ _ (by omega) (by omega), ← Nat.shiftLeft_eq, ← Nat.shiftLeft_add_eq_or_of_lt hn]
  simp
theorem and_low (k : Nat) (a : Int) (h0 : 0 ≤ a) (h : a < 4294967296) (hk : k ≤ 31) : bitsOf .and .u32 a ((2 ^ k - 1 : Nat) : Int) = a % 2 ^ k := by
  obtain ⟨n, rfl⟩ : ∃ n : Nat, a = n := ⟨a.toNat, by omega⟩
  have p : 2 ^ k ≤ 2 ^ 31 := Nat.pow_le_pow_right (by decide) hk
  rw [and_nat _ _ (by omega) (by omega), Nat.and_two_pow_sub_one_eq_mod]
  simp
theorem and_16 (a : Int) (h0 : 0 ≤ a) (h : a < 4294967296) : bitsOf .and .u32 a 65535 = a % 65536 := and_low 16 a h0 h (by decide)
theorem and_24 (a : Int) (h0 : 0 ≤ a) (h : a < 4294967296) : bitsOf .and .u32 a 16777215 = a % 16777216 := and_low 24 a h0 h (by decide)
theorem wrap_mod (n : Int) : IntKind.u32.wrap n = n % 4294967296 := by
  simp only [IntKind.wrap, IntKind.bits, IntKind.signed]
  simp
/-- the fields of a word -/
theorem word_of (op a b m c : Int) (h1 : 0 ≤ op) (h2 : op < 128) (h3 : 0 ≤ a) (h4 : a < 16) (h5 : 0 ≤ b) (h6 : b < 16) (h7 : 0 ≤ c) (h8 : c < 16) (h9 : m = 0 ∨ c = 0) :
    bitsOf .or .u32 (bitsOf .or .u32 (bitsOf .or .u32 (bitsOf .or .u32 (IntKind.wrap .u32 ((IntKind.wrap .u32 op) * 2 ^ 24)) (IntKind.wrap .u32 ((IntKind.wrap .u32 a) * 2 ^ 20))) (IntKind.wrap .u32 ((IntKind.wrap .u32 b) * 2 ^ 16))) (bitsOf .and .u32 (IntKind.wrap .u32 m) 65535)) (IntKind.wrap .u32 c)
      = op * 16777216 + a * 1048576 + b * 65536 + m % 65536 + c := by
  rw [wrap_u32 op h1 (by omega), wrap_u32 a h3 (by omega), wrap_u32 b h5 (by omega), wrap_u32 c h7 (by omega), wrap_u32 (op * 2 ^ 24) (by omega) (by omega), wrap_u32 (a * 2 ^ 20) (by omega) (by omega), wrap_u32 (b * 2 ^ 16) (by omega) (by omega),
    and_16 _ (by rw [wrap_mod]; omega) (by rw [wrap_mod]; omega), wrap_mod]
  rw [or_part 24 op (a * 2 ^ 20) h1 (by omega) (by omega) (by omega)]
  have e1 : op * 2 ^ 24 + a * 2 ^ 20 = (op * 16 + a) * 2 ^ 20 := by omega
  rw [e1, or_part 20 (op * 16 + a) (b * 2 ^ 16) (by omega) (by omega) (by omega) (by omega)]
  have e2 : (op * 16 + a) * 2 ^ 20 + b * 2 ^ 16 = (op * 256 + a * 16 + b) * 2 ^ 16 := by omega
  rw [e2, or_part 16 (op * 256 + a * 16 + b) (m % 4294967296 % 65536) (by omega) (by omega) (by omega) (by omega)]
  rcases h9 with rfl | rfl
  · have e3 : (op * 256 + a * 16 + b) * 2 ^ 16 + 0 % 4294967296 % 65536 = (op * 4096 + a * 256 + b * 16 + 0) * 2 ^ 12 := by omega
    have e4 : (op * 4096 + a * 256 + b * 16 + 0) * 2 ^ 12 = ((op * 4096 + a * 256 + b * 16 + 0) * 2 ^ 8) * 2 ^ 4 := by omega
    rw [e3, e4, or_part 4 _ c (by omega) h7 (by omega) (by omega)]
    omega
  · have e3 : (op * 256 + a * 16 + b) * 2 ^ 16 + m % 4294967296 % 65536 = ((op * 256 + a * 16 + b) * 2 ^ 16 + m % 4294967296 % 65536) * 2 ^ 0 := by omega
    rw [e3, or_part 0 _ 0 (by omega) (by omega) (by omega) (by omega)]
    omega
end Go.Proofs.Abs
/- Strings as lists of bytes; what loops come to. -/
namespace Go.Proofs.Abs
open Go
set_option linter.unusedVariables false
set_option linter.unusedSimpArgs false
abbrev Bs := List UInt8
def bs (s : ByteArray) : Bs := s.data.toList
def mkB (l : Bs) : ByteArray := ⟨l.toArray⟩
theorem bs_mk (l : Bs) : bs (mkB l) = l := rfl
theorem mk_bs (s : ByteArray) : mkB (bs s) = s := rfl
theorem bs_inj {a b : ByteArray} (h : bs a = bs b) : a = b := by rw [← mk_bs a, ← mk_bs b, h]
theorem size_bs (s : ByteArray) : s.size = (bs s).length := Lib.size_eq s
theorem size_mk (l : Bs) : (mkB l).size = l.length := rfl
theorem strEq_eq (x y : ByteArray) : strEq x y = decide (bs x = bs y) := by
  unfold strEq
  rw [Lib.toList_data, Lib.toList_data]
  show (bs x == bs y) = _
  by_cases h : bs x = bs y
  · rw [h]; simp
  · rw [decide_eq_false h]; simp [h]
theorem strEq_mk (x : ByteArray) (l : Bs) : strEq x (mkB l) = decide (bs x = l) := strEq_eq _ _
theorem strEq_nil (x : ByteArray) : strEq x ByteArray.empty = decide (bs x = []) := strEq_eq _ _
/-- a byte, as a number -/
def u8i (c : UInt8) : Int := (c.toNat : Int)
theorem u8i_inj {a b : UInt8} (h : u8i a = u8i b) : a = b := UInt8.toNat_inj.1 (by unfold u8i at h; omega)
theorem u8i_eq (a : UInt8) (n : Nat) (hn : n < 256) : (u8i a = n) = (a = UInt8.ofNat n) := by
  have e : u8i (UInt8.ofNat n) = n := by unfold u8i; simp; omega
  exact propext ⟨fun h => u8i_inj (by rw [h, e]), fun h => by rw [h, e]⟩
theorem get_bs (b : ByteArray) (i : Nat) : b[i]? = (bs b)[i]? := by
  show (if h : i < b.size then some b[i] else none) = _
  by_cases h : i < b.size
  · rw [dif_pos h, List.getElem?_eq_getElem (by rw [← size_bs]; exact h)]; rfl
  · rw [dif_neg h, List.getElem?_eq_none (by rw [← size_bs]; omega)]
theorem sAt_some {b : ByteArray} {i : Nat} {c : UInt8} (h : (bs b)[i]? = some c) : sAt b (i : Int) = some (u8i c) := by
  unfold sAt
  rw [if_pos (by omega), Int.toNat_natCast, get_bs, h]
  rfl
theorem sCut_some (b : ByteArray) {lo hi : Nat} (h1 : lo ≤ hi) (h2 : hi ≤ (bs b).length) : sCut b (lo : Int) (hi : Int) = some (mkB (((bs b).drop lo).take (hi - lo))) := by
  unfold sCut
  rw [if_pos ⟨by omega, by omega, by rw [size_bs]; omega⟩, Int.toNat_natCast, Int.toNat_natCast]
  congr 1
  apply bs_inj
  rw [bs_mk]
  exact Lib.extract_data b lo hi
theorem sCut_all (b : ByteArray) {lo : Nat} (h1 : lo ≤ (bs b).length) : sCut b (lo : Int) b.size = some (mkB ((bs b).drop lo)) := by
  rw [size_bs, sCut_some b h1 (Nat.le_refl _), List.take_of_length_le (by simp)]
theorem sCat_some {x y : ByteArray} (h : (bs x).length + (bs y).length ≤ 9223372036854775807) : sCat x y = some (mkB (bs x ++ bs y)) := by
  unfold sCat
  rw [if_neg (by rw [size_bs, size_bs]; show ¬ _ > (9223372036854775807 : Int); omega)]
  rfl
theorem app_some {α : Type} {zb : Nat} {xs ys : List α} (h : (xs.length + ys.length) * zb ≤ 140737488355328) : app zb xs ys = some (xs ++ ys) := if_pos h
theorem gi_nat {α : Type} {xs : List α} {i : Nat} {x : α} (h : xs[i]? = some x) : gi xs (i : Int) = some x := by
  unfold gi; rw [if_pos (by omega), Int.toNat_natCast, h]
theorem len_of {α : Type} {xs : List α} {i : Nat} {x : α} (h : xs[i]? = some x) : i < xs.length := (List.getElem?_eq_some_iff.1 h).1
theorem wr64 (n : Nat) (h : n < 4611686018427387904) : IntKind.wrap .i64 ((n : Int) + 1) = ((n + 1 : Nat) : Int) := by rw [wrap_i64 _ (by omega) (by omega)]; omega

/-! loops over a list -/
section
variable {S σ α ρ : Type}
/-- what a loop over a list comes to -/
def runG (g : Nat → σ → α → σ ⊕ ρ) (out : σ → ρ) : Nat → σ → List α → ρ
  | _, s, [] => out s
  | i, s, x :: l => match g i s x with
    | .inl s' => runG g out (i + 1) s' l
    | .inr r => r
theorem runG_cons (g : Nat → σ → α → σ ⊕ ρ) (out : σ → ρ) (i : Nat) (s : σ) (x : α) (l : List α) : runG g out i s (x :: l) = match g i s x with
    | .inl s' => runG g out (i + 1) s' l
    | .inr r => r := rfl
theorem loop_g {xs : List α} {f : S → Option (S ⊕ ρ)} (st : σ → Nat → S) (g : Nat → σ → α → σ ⊕ ρ) (out : σ → ρ) (P : Nat → σ → Prop)
    (hs : ∀ i x s, xs[i]? = some x → P i s → f (st s i) = some (match g i s x with | .inl s' => .inl (st s' (i + 1)) | .inr r => .inr r))
    (hp : ∀ i x s s', xs[i]? = some x → P i s → g i s x = .inl s' → P (i + 1) s') (he : ∀ s, P xs.length s → f (st s xs.length) = some (.inr (out s))) :
    ∀ (l : List α) (i : Nat) (s : σ), i ≤ xs.length → xs.drop i = l → P i s → loopO f (st s i) = some (runG g out i s l)
  | [], i, s, hi, hl, hP => by
    have : i = xs.length := by
      have := congrArg List.length hl
      simp at this; omega
    subst this
    rw [loopO_out (he s hP)]; rfl
  | x :: l, i, s, hi, hl, hP => by
    have hx : xs[i]? = some x := by
      have := congrArg (·[0]?) hl
      simpa using this
    have hd : xs.drop (i + 1) = l := by rw [← List.drop_drop, hl]; rfl
    have h := hs i x s hx hP
    unfold runG
    cases hg : g i s x with
    | inl s' =>
      rw [hg] at h
      rw [loopO_go h]
      exact loop_g st g out P hs hp he l (i + 1) s' (len_of hx) hd (hp i x s s' hx hP hg)
    | inr r => rw [hg] at h; rw [loopO_out h]
theorem loop_all {xs : List α} {f : S → Option (S ⊕ ρ)} (st : σ → Nat → S) (g : Nat → σ → α → σ ⊕ ρ) (out : σ → ρ) (P : Nat → σ → Prop) (s : σ) (h0 : P 0 s)
    (hs : ∀ i x s, xs[i]? = some x → P i s → f (st s i) = some (match g i s x with | .inl s' => .inl (st s' (i + 1)) | .inr r => .inr r))
    (hp : ∀ i x s s', xs[i]? = some x → P i s → g i s x = .inl s' → P (i + 1) s') (he : ∀ s, P xs.length s → f (st s xs.length) = some (.inr (out s))) :
    loopO f (st s 0) = some (runG g out 0 s xs) := loop_g st g out P hs hp he xs 0 s (Nat.zero_le _) rfl h0
/-- a search: the first that answers -/
def findG (g : Nat → α → Option ρ) (r0 : ρ) : Nat → List α → ρ
  | _, [] => r0
  | i, x :: l => match g i x with
    | some r => r
    | none => findG g r0 (i + 1) l
theorem loop_find {xs : List α} {f : Int → Option (Int ⊕ ρ)} (g : Nat → α → Option ρ) (r0 : ρ)
    (hs : ∀ (i : Nat) x, xs[i]? = some x → f (i : Int) = some (match g i x with | some r => .inr r | none => .inl ((i + 1 : Nat) : Int)))
    (he : f (xs.length : Int) = some (.inr r0)) : loopO f 0 = some (findG g r0 0 xs) := by
  have h := loop_all (xs := xs) (f := f) (fun (_ : Unit) i => (i : Int)) (fun i _ x => match g i x with | some r => .inr r | none => .inl ()) (fun _ => r0) (fun _ _ => True) () trivial
    (fun i x s hx _ => by rw [hs i x hx]; cases g i x <;> rfl) (fun _ _ _ _ _ _ _ => trivial) (fun _ _ => he)
  have e : ∀ (l : List α) (i : Nat), runG (fun i (_ : Unit) x => match g i x with | some r => .inr r | none => .inl ()) (fun _ => r0) i () l = findG g r0 i l := by
    intro l
    induction l with
    | nil => intro i; rfl
    | cons x l ih =>
      intro i
      unfold runG findG
      cases g i x with
      | none => exact ih (i + 1)
      | some r => rfl
  rw [e] at h
  exact h
end
end Go.Proofs.Abs
/- Names, labels, operations. -/
namespace Go.Proofs.Abs
open Go
set_option linter.unusedVariables false
set_option linter.unusedSimpArgs false
theorem i_lt {α : Type} {xs : List α} {i : Nat} {x : α} (h : xs[i]? = some x) : decide ((i : Int) < (xs.length : Int)) = true := by
  have := len_of h; simp; omega
theorem i_ge {α : Type} (xs : List α) : decide ((xs.length : Int) < (xs.length : Int)) = false := by simp
/-- may a byte stand in a name? -/
def nameC (i : Nat) (c : UInt8) : Bool := (decide (97 ≤ u8i c) && decide (u8i c ≤ 122)) || (decide (u8i c = 95) || (decide (0 < i) && (decide (48 ≤ u8i c) && decide (u8i c ≤ 57))))
def nameS (l : Bs) : Bool := decide (1 ≤ l.length ∧ l.length ≤ 32) && findG (fun i c => if nameC i c then none else some false) true 0 l
theorem findG_unit (p : Nat → UInt8 → Bool) : ∀ (l : Bs) (i : Nat), findG (fun i c => if p i c then none else some (Sum.inr () : Unit ⊕ Unit)) (.inl ()) i l = if findG (fun i c => if p i c then none else some false) true i l = true then .inl () else .inr ()
  | [], _ => rfl
  | x :: l, i => by
    unfold findG
    cases p i x with
    | true => exact findG_unit p l (i + 1)
    | false => rfl
theorem asm_Name_eq (s : ByteArray) (hs : s.size < 4611686018427387904) : asm_Name s = some (nameS (bs s)) := by
  unfold asm_Name nameS
  rw [strEq_nil, size_bs]
  by_cases h : 1 ≤ (bs s).length ∧ (bs s).length ≤ 32
  · rw [if_neg, decide_eq_true h, Bool.true_and, loop_find (xs := bs s) (fun i c => if nameC i c then none else some (.inr ())) (.inl ()), findG_unit nameC]
    · cases findG (fun i c => if nameC i c then none else some false) true 0 (bs s) <;> rfl
    · intro i c hc
      unfold asm_Name_L1
      rw [size_bs, i_lt hc, if_pos rfl, sAt_some hc, bind1_some, wr64 i (by have := len_of hc; omega)]
      have hb : ((!(if (decide (u8i c ≥ 97)) = true then ((decide (u8i c ≤ 122)) || (u8i c == 95)) else (u8i c == 95))) && (((i : Int) == 0) || ((decide (u8i c < 48)) || (decide (u8i c > 57))))) = !nameC i c := by
        unfold nameC
        rw [Bool.eq_iff_iff]
        simp only [Bool.and_eq_true, Bool.or_eq_true, Bool.not_eq_true', beq_iff_eq, decide_eq_true_eq]
        split <;> simp <;> omega
      rw [hb]
      cases nameC i c <;> rfl
    · unfold asm_Name_L1
      rw [size_bs, i_ge, if_neg (by decide)]
    · intro e
      simp at e
      rcases e with e | e
      · rw [e] at h; simp at h
      · omega
  · rw [if_pos, decide_eq_false h]; rfl
    simp
    cases hb : bs s with
    | nil => simp
    | cons a r => rw [hb] at h; simp at h ⊢; omega
/-- the word that a name names -/
def atS (n : Bs) (ls : List T_asm_Label) : Int := findG (fun _ l => if bs l.Name_ = n then some l.At_ else none) (-1) 0 ls
/-- a search whose answer stands in a sum -/
theorem findG_sum {α ρ : Type} (g : Nat → α → Option ρ) (r0 : ρ) : ∀ (l : List α) (i : Nat), sum2 (fun (_ : Unit) => some r0) (fun r => some r) (findG (fun i x => (g i x).map (Sum.inr : ρ → Unit ⊕ ρ)) (.inl ()) i l) = some (findG g r0 i l)
  | [], _ => rfl
  | x :: l, i => by
    unfold findG
    cases g i x with
    | some r => rfl
    | none => exact findG_sum g r0 l (i + 1)
theorem asm_At_eq (u : T_asm_Unit) (n : ByteArray) (h : u.Labels_.length < 4611686018427387904) : asm_Unit_At u n = some (atS (bs n) u.Labels_) := by
  unfold asm_Unit_At atS
  rw [loop_find (xs := u.Labels_) (fun i x => (if bs x.Name_ = bs n then some x.At_ else none).map Sum.inr) (.inl ()), bind1_some]
  · exact findG_sum _ _ _ _
  · intro i x hx
    unfold asm_Unit_At_L1
    rw [i_lt hx, if_pos rfl, gi_nat hx, bind1_some, strEq_eq, wr64 i (by have := len_of hx; omega)]
    by_cases e : bs x.Name_ = bs n
    · simp [e]
    · simp [e]
  · unfold asm_Unit_At_L1
    rw [i_ge, if_neg (by decide)]
/-- the document's labels -/
def rl (l : T_asm_Label) : T_ref05_Label := ⟨l.Name_, l.At_⟩
theorem findG_mapL {α β ρ : Type} (f : α → β) (g : Nat → β → Option ρ) (r0 : ρ) : ∀ (l : List α) (i : Nat), findG g r0 i (l.map f) = findG (fun i x => g i (f x)) r0 i l
  | [], _ => rfl
  | x :: l, i => by
    simp only [List.map_cons]
    unfold findG
    cases g i (f x) with
    | some r => rfl
    | none => exact findG_mapL f g r0 l (i + 1)
/-- the operations' names -/
def opNames : List Bs := [[72, 65, 76, 84], [76, 68, 73], [76, 85, 73], [79, 82, 73], [65, 68, 68, 73], [65, 68, 68], [83, 85, 66], [77, 85, 76], [68, 73, 86], [77, 79, 68], [65, 78, 68], [79, 82], [88, 79, 82], [83, 76, 84], [83, 76, 69], [83, 69, 81], [83, 78, 69], [76, 68, 87], [83, 84, 87], [66, 90], [66, 78, 90], [66, 82], [67, 65, 76, 76], [74, 82], [67, 65, 76, 76, 82], [67, 72, 75], [78, 73, 76], [84, 82, 65, 80], [82, 65, 73, 83, 69], [79, 85, 84], [73, 78], [67, 72, 75, 83], [82, 84, 67], [88, 79, 82, 73]]
def opS (n : Bs) : Int := findG (fun i x => if x = n then some ((i + 1 : Nat) : Int) else none) 0 0 opNames
theorem names_eq : instr_names = some (mkB [] :: opNames.map mkB) := by kernel_rfl
theorem instr_Op_eq (s : ByteArray) : instr_Op s = some (opS (bs s)) := by
  unfold instr_Op
  rw [names_eq, bind1_some, loop_find (xs := mkB [] :: opNames.map mkB) (fun i x => (if 0 < i ∧ bs x = bs s then some (i : Int) else none).map Sum.inr) (.inl ()), bind1_some]
  · rw [findG_sum]
    unfold findG
    simp only [Nat.lt_irrefl, false_and, if_false]
    rw [findG_mapL]
    have : ∀ (l : List Bs) (i : Nat), findG (fun i x => if 0 < i ∧ bs (mkB x) = bs s then some (i : Int) else none) 0 (i + 1) l = findG (fun i x => if x = bs s then some ((i + 1 : Nat) : Int) else none) 0 i l := by
      intro l
      induction l with
      | nil => intro i; rfl
      | cons x l ih =>
        intro i
        unfold findG
        rw [bs_mk]
        by_cases e : x = bs s
        · rw [if_pos ⟨by omega, e⟩, if_pos e]
        · rw [if_neg (fun h => e h.2), if_neg e]; exact ih (i + 1)
    rw [this]; rfl
  · intro i x hx
    unfold instr_Op_L1
    rw [i_lt hx, if_pos rfl, gi_nat hx, bind1_some, strEq_eq, wr64 i (by have := len_of hx; simp [opNames] at this; omega)]
    by_cases e : bs x = bs s
    · by_cases e0 : 0 < i
      · have : (i : Int) > 0 := by omega
        simp [e, e0, this]
      · have : ¬ (i : Int) > 0 := by omega
        simp [e, e0, this]
    · simp [e]
  · unfold instr_Op_L1
    rw [i_ge, if_neg (by decide)]
end Go.Proofs.Abs
/- A row's label; texts that are cut. -/
namespace Go.Proofs.Abs
open Go
set_option linter.unusedVariables false
set_option linter.unusedSimpArgs false
/-- a row's last field, if it may name a label -/
def jumpS (op : Int) : Bool := decide (20 ≤ op ∧ op ≤ 23)
def namedS (op : Int) (fs : List ByteArray) : Bs := match fs.getLast? with
  | some f => if jumpS op && nameS (bs f) then bs f else []
  | none => []
theorem asm_jumps_eq (op : Int) : asm_jumps op = some (jumpS op) := by
  unfold asm_jumps asm_jumps_j1 jumpS
  by_cases h : 20 ≤ op ∧ op ≤ 23
  · rw [decide_eq_true h]
    have : op = 20 ∨ op = 21 ∨ op = 22 ∨ op = 23 := by omega
    rcases this with rfl | rfl | rfl | rfl <;> rfl
  · rw [decide_eq_false h, if_neg (by simp; omega), if_neg (by simp; omega), if_neg (by simp; omega), if_neg (by simp; omega)]
theorem last_at {α : Type} {fs : List α} {f : α} (h : fs.getLast? = some f) : fs[fs.length - 1]? = some f := by rw [← List.getLast?_eq_getElem?, h]
theorem last_ix {α : Type} {fs : List α} {f : α} (h : fs.getLast? = some f) (hl : fs.length < 4611686018427387904) : IntKind.wrap .i64 ((fs.length : Int) - 1) = ((fs.length - 1 : Nat) : Int) := by
  have : 0 < fs.length := List.length_pos_iff.2 (fun e => by subst e; cases h)
  rw [wrap_i64 _ (by omega) (by omega)]; omega
def okFs (fs : List ByteArray) : Prop := fs.length < 4611686018427387904 ∧ ∀ f ∈ fs, f.size < 4611686018427387904
theorem named_eq (x : T_asm_row) (h : okFs x.fields_) : asm_row_named x = some (mkB (namedS x.op_ x.fields_)) := by
  unfold asm_row_named namedS
  rw [asm_jumps_eq, bind1_some]
  cases hf : x.fields_.getLast? with
  | none =>
    rw [List.getLast?_eq_none_iff] at hf
    rw [hf, if_pos (by simp)]; rfl
  | some f =>
    have hn : 0 < x.fields_.length := List.length_pos_iff.2 (fun e => by rw [e] at hf; cases hf)
    cases hj : jumpS x.op_ with
    | false => rw [if_pos (by simp)]; rfl
    | true =>
      have hz : ((x.fields_.length : Int) == 0) = false := by rw [beq_eq_false_iff_ne]; omega
      rw [if_neg (by rw [hz]; decide), last_ix hf h.1, gi_nat (last_at hf), bind1_some, asm_Name_eq _ (h.2 _ (List.mem_of_getLast? hf)), bind1_some]
      show _ = some (mkB (if (true && nameS (bs f)) = true then bs f else []))
      cases nameS (bs f) <;> rfl
/-- the document's rows -/
def rr (x : T_asm_row) : T_ref05_row := ⟨x.line_, x.op_, x.word_, x.fields_⟩
/-! cuts at one byte -/
def cuts (c : UInt8) : Bs → List Bs
  | [] => [[]]
  | x :: l => if x = c then [] :: cuts c l else match cuts c l with
    | h :: t => (x :: h) :: t
    | [] => [[x]]
theorem cuts_ne (c : UInt8) : ∀ l, cuts c l ≠ []
  | [] => by simp [cuts]
  | x :: l => by
    unfold cuts
    split
    · simp
    · split <;> simp
theorem split_miss {s sep : Bs} (h : Lib.index s sep = -1) : Lib.split s sep = [s] := by
  unfold Lib.split
  rw [Lib.count_miss h]; rfl
theorem split_hit {s sep : Bs} {i : Nat} (hs : sep ≠ []) (h : Lib.index s sep = i) : Lib.split s sep = s.take i :: Lib.split (s.drop (i + sep.length)) sep := by
  unfold Lib.split
  rw [Lib.count_hit hs h, Nat.add_comm]
  conv => lhs; unfold Lib.splitK
  rw [if_neg (by rw [h]; simp), h]
  rfl
theorem split_one (c : UInt8) : ∀ s, Lib.split s [c] = cuts c s
  | [] => by rw [split_miss (by simp [Lib.index])]; rfl
  | x :: l => by
    have ih := split_one c l
    unfold cuts
    by_cases e : x = c
    · subst e
      have : Lib.index (x :: l) [x] = ((0 : Nat) : Int) := by rw [Lib.index]; simp [List.isPrefixOf]
      rw [split_hit (by simp) this, if_pos rfl]
      simp [ih]
    · have hp : ([c] : Bs).isPrefixOf (x :: l) = false := by simp [List.isPrefixOf, Ne.symm e]
      have hi : Lib.index (x :: l) [c] = if Lib.index l [c] == -1 then -1 else Lib.index l [c] + 1 := by rw [Lib.index, hp]; simp
      rw [if_neg e]
      rcases Lib.index_spec l [c] with ⟨h, _⟩ | ⟨i, h, _⟩
      · rw [h] at hi
        rw [split_miss (by simpa using hi), ← ih, split_miss h]
      · rw [h, if_neg (by simp)] at hi
        rw [split_hit (i := i + 1) (by simp) (by rw [hi]; simp), ← ih, split_hit (by simp) h]
        simp [Nat.add_assoc, Nat.add_comm 1]
theorem splitB_bs (s sep : ByteArray) : (Lib.splitB sep 0 (Lib.countB s sep) s) = (Lib.split (bs s) (bs sep)).map mkB := by
  have h := Lib.splitB_data sep 0 (Lib.countB s sep) s
  have h2 : ((Lib.splitB sep 0 (Lib.countB s sep) s).map (·.data.toList)).map mkB = (Lib.split (bs s) (bs sep)).map mkB := by rw [h]; rfl
  rw [← h2, List.map_map]
  exact (List.map_id _).symm
theorem splitC_eq (s : ByteArray) (sep : Bs) (hs : s.size < 4294967281) (h1 : sep ≠ []) : splitC s (mkB sep) = some ((Lib.split (bs s) sep).map mkB) := by
  unfold splitC
  rw [if_pos ⟨by rw [size_mk]; exact List.length_pos_iff.2 h1, hs⟩, splitB_bs]; rfl
end Go.Proofs.Abs
/- Texts that are cut, by the document; a line's first word and its fields. -/
namespace Go.Proofs.Abs
open Go
set_option linter.unusedVariables false
set_option linter.unusedSimpArgs false
def glue (cur : Bs) : List Bs → List Bs
  | h :: t => (cur ++ h) :: t
  | [] => [cur]
def cutG (b : Bs) (c : UInt8) (i : Nat) (s : List ByteArray × Nat) (x : UInt8) : (List ByteArray × Nat) ⊕ (List ByteArray × Int) :=
  if x = c then .inl (s.1 ++ [mkB ((b.take i).drop s.2)], i + 1) else .inl s
def cutE (s : List ByteArray × Nat) : List ByteArray × Int := (s.1, (s.2 : Int))
/-! fields: parted by a comma and a blank -/
def goodF (f : Bs) : Bool := !f.isEmpty && f.all fun c => c != 32 && c != 44
def joinF : List Bs → Bs
  | [] => []
  | [f] => f
  | f :: g :: r => f ++ 44 :: 32 :: joinF (g :: r)
/-- a line's fields, if they are -/
def fieldsS (s : Bs) : Option (List Bs) := if (Lib.split s [44, 32]).all goodF then some (Lib.split s [44, 32]) else none
/-- the document's way: cut at the commas; a blank ahead of each but the first -/
def refF : List Bs → Option (List Bs)
  | [] => some []
  | p :: r => match p with
    | 32 :: f => if !f.isEmpty && f.all (fun c => c != 32) then (refF r).map (f :: ·) else none
    | _ => none
def refFs : List Bs → Option (List Bs)
  | [] => none
  | f :: r => if !f.isEmpty && f.all (fun c => c != 32) then (refF r).map (f :: ·) else none
/-- pieces with one byte between them -/
def join1 (c : UInt8) : List Bs → Bs
  | [] => []
  | [f] => f
  | f :: g :: r => f ++ c :: join1 c (g :: r)
theorem cuts_app {c : UInt8} {r : Bs} : ∀ {f : Bs}, (∀ x ∈ f, x ≠ c) → cuts c (f ++ c :: r) = f :: cuts c r
  | [], _ => by simp [cuts]
  | x :: f, h => by
    show cuts c (x :: (f ++ c :: r)) = _
    conv => lhs; unfold cuts
    rw [if_neg (h x (List.mem_cons_self ..)), cuts_app fun y hy => h y (List.mem_cons_of_mem _ hy)]
end Go.Proofs.Abs
/- A line's words, by both ways. -/
namespace Go.Proofs.Abs
open Go
set_option linter.unusedVariables false
set_option linter.unusedSimpArgs false
/-- a line's first word, and its fields -/
def wordsS (s : Bs) : Option (Bs × List Bs) :=
  if (s.takeWhile (· != 32)).length = s.length then some (s, []) else (fieldsS (s.drop ((s.takeWhile (· != 32)).length + 1))).map fun fs => (s.takeWhile (· != 32), fs)
theorem index_sp : ∀ (s : Bs), Lib.index s [32] = if (s.takeWhile (· != 32)).length = s.length then -1 else ((s.takeWhile (· != 32)).length : Int)
  | [] => by simp [Lib.index]
  | x :: l => by
    by_cases e : x = 32
    · subst e
      rw [Lib.index]; simp [List.isPrefixOf]
    · have hp : ([32] : Bs).isPrefixOf (x :: l) = false := by simp [List.isPrefixOf, Ne.symm e]
      have hi : Lib.index (x :: l) [32] = if Lib.index l [32] == -1 then -1 else Lib.index l [32] + 1 := by rw [Lib.index, hp]; simp
      rw [hi, index_sp l, List.takeWhile_cons_of_pos (by simp [e])]
      by_cases h : (List.takeWhile (· != 32) l).length = l.length
      · rw [if_pos h, if_pos (by decide), if_pos (by rw [List.length_cons, List.length_cons, h])]
      · rw [if_neg h, if_neg (by rw [beq_iff_eq]; omega), if_neg (by rw [List.length_cons, List.length_cons]; omega)]; simp
theorem cutC_eq (s : ByteArray) (hs : s.size < 4294967281) : cutC s (mkB [32]) = some (if ((bs s).takeWhile (· != 32)).length = (bs s).length then (s, mkB [], false) else (mkB ((bs s).takeWhile (· != 32)), mkB ((bs s).drop (((bs s).takeWhile (· != 32)).length + 1)), true)) := by
  unfold cutC
  rw [if_pos hs]
  show some (mkB (Lib.cut (bs s) [32]).1, mkB (Lib.cut (bs s) [32]).2.1, (Lib.cut (bs s) [32]).2.2) = _
  unfold Lib.cut
  rw [index_sp]
  by_cases h : (List.takeWhile (· != 32) (bs s)).length = (bs s).length
  · rw [if_pos h, if_neg (by decide), if_pos h]; rfl
  · rw [if_neg h, if_pos (by omega), if_neg h, Int.toNat_natCast]
    have e : (bs s).take ((bs s).takeWhile (· != 32)).length = (bs s).takeWhile (· != 32) := (List.prefix_iff_eq_take.1 (List.takeWhile_prefix _)).symm
    show some (mkB ((bs s).take ((bs s).takeWhile (· != 32)).length), _) = _
    rw [e]; rfl
def okP (f : Bs) : Bool := !f.isEmpty && f.all (fun c => c != 32)
def tl32 : Bs → Option Bs
  | y :: f => if y = 32 then some f else none
  | [] => none
/-- one piece more -/
def spG (i : Nat) (o : List Bs) (p : Bs) : List Bs ⊕ (List Bs ⊕ Unit) := match (if i = 0 then some p else tl32 p) with
  | some f => if okP f then .inl (o ++ [f]) else .inr (.inr ())
  | none => .inr (.inr ())
theorem cuts_mem_le (c : UInt8) : ∀ (l : Bs), ∀ p ∈ cuts c l, p.length ≤ l.length
  | [], p, hp => by simp [cuts] at hp; subst hp; simp
  | x :: l, p, hp => by
    have ih := cuts_mem_le c l
    unfold cuts at hp
    split at hp
    · rcases List.mem_cons.1 hp with rfl | hp
      · simp
      · have := ih p hp; simp; omega
    · split at hp
      · rename_i h t hc
        rw [hc] at ih
        rcases List.mem_cons.1 hp with rfl | hp
        · have := ih h (List.mem_cons_self ..); simp; omega
        · have := ih p (List.mem_cons_of_mem _ hp); simp; omega
      · simp at hp; subst hp; simp
end Go.Proofs.Abs
/- The library's search for any of two signs; a line's words, by the program. -/
namespace Go.Proofs.Abs
open Go
set_option linter.unusedVariables false
set_option linter.unusedSimpArgs false
def sepC (c : UInt8) : Bool := c == 32 || c == 44
theorem get!_bs (s : ByteArray) (i : Nat) : s.get! i = (bs s).getD i 0 := by
  obtain ⟨d⟩ := s
  show d[i]! = d.toList.getD i 0
  rw [List.getD_eq_getElem?_getD]
  by_cases h : i < d.size
  · rw [getElem!_pos d i h, List.getElem?_eq_getElem (by simpa using h)]; simp
  · rw [getElem!_neg d i h, List.getElem?_eq_none (by simpa using h)]; rfl
theorem dec_lo {s : ByteArray} {i : Nat} {c : UInt8} (h : (bs s)[i]? = some c) (hc : c.toNat < 128) : runeAt s i = u8i c ∧ runeEnd s i = i + 1 := by
  have e : (s.get! (i + 0)).toNat = c.toNat := by rw [get!_bs, List.getD_eq_getElem?_getD, Nat.add_zero, h]; rfl
  have : Utf8.decode s i = (c.toNat, 1) := by
    unfold Utf8.decode
    simp only [e]
    rw [if_pos hc]
  unfold runeAt runeEnd
  rw [this]; exact ⟨rfl, rfl⟩
theorem dec_hi {s : ByteArray} {i : Nat} {c : UInt8} (h : (bs s)[i]? = some c) (hc : 128 ≤ c.toNat) : 128 ≤ runeAt s i ∧ i < runeEnd s i ∧ runeEnd s i ≤ (bs s).length ∧ ∀ j, i ≤ j → j < runeEnd s i → ∀ d, (bs s)[j]? = some d → 128 ≤ d.toNat := by
  have hl := len_of h
  have e : ∀ k, (s.get! (i + k)).toNat = ((bs s).getD (i + k) 0).toNat := fun k => by rw [get!_bs]
  have e0 : ((bs s).getD (i + 0) 0).toNat = c.toNat := by rw [List.getD_eq_getElem?_getD, Nat.add_zero, h]; rfl
  have hd : ∀ k d, (bs s)[i + k]? = some d → ((bs s).getD (i + k) 0).toNat = d.toNat := fun k d hd => by rw [List.getD_eq_getElem?_getD, hd]; rfl
  have key : ∀ n w, Utf8.decode s i = (n, w) → 128 ≤ n ∧ 1 ≤ w ∧ i + w ≤ (bs s).length ∧ ∀ k, k < w → 128 ≤ ((bs s).getD (i + k) 0).toNat := by
    intro n w hnw
    unfold Utf8.decode at hnw
    simp only [e, size_bs, e0] at hnw
    rw [if_neg (by omega)] at hnw
    have one : ∀ k, k < 1 → 128 ≤ ((bs s).getD (i + k) 0).toNat := fun k hk => by
      have : k = 0 := by omega
      subst this; rw [e0]; exact hc
    have bad : ((Utf8.runeError, 1) : Nat × Nat) = (n, w) → 128 ≤ n ∧ 1 ≤ w ∧ i + w ≤ (bs s).length ∧ ∀ k, k < w → 128 ≤ ((bs s).getD (i + k) 0).toNat := fun hh => by
      cases hh; exact ⟨by decide, Nat.le_refl _, by omega, one⟩
    split at hnw
    · rename_i h2
      simp only [Bool.and_eq_true, beq_iff_eq, decide_eq_true_eq] at h2
      split at hnw
      · rename_i h3
        cases hnw
        refine ⟨h3, by decide, by omega, fun k hk => ?_⟩
        have : k = 0 ∨ k = 1 := by omega
        rcases this with rfl | rfl
        · rw [e0]; exact hc
        · omega
      · exact bad hnw
    · split at hnw
      · rename_i h2
        simp only [Bool.and_eq_true, beq_iff_eq, decide_eq_true_eq] at h2
        split at hnw
        · rename_i h3
          simp only [Bool.and_eq_true, decide_eq_true_eq] at h3
          cases hnw
          refine ⟨by omega, by decide, by omega, fun k hk => ?_⟩
          have : k = 0 ∨ k = 1 ∨ k = 2 := by omega
          rcases this with rfl | rfl | rfl
          · rw [e0]; exact hc
          · omega
          · omega
        · exact bad hnw
      · split at hnw
        · rename_i h2
          simp only [Bool.and_eq_true, beq_iff_eq, decide_eq_true_eq] at h2
          split at hnw
          · rename_i h3
            simp only [Bool.and_eq_true, decide_eq_true_eq] at h3
            cases hnw
            refine ⟨by omega, by decide, by omega, fun k hk => ?_⟩
            have : k = 0 ∨ k = 1 ∨ k = 2 ∨ k = 3 := by omega
            rcases this with rfl | rfl | rfl | rfl
            · rw [e0]; exact hc
            · omega
            · omega
            · omega
          · exact bad hnw
        · exact bad hnw
  obtain ⟨⟨n, w⟩, hp⟩ : ∃ p, Utf8.decode s i = p := ⟨_, rfl⟩
  obtain ⟨k1, k2, k3, k4⟩ := key n w hp
  unfold runeAt runeEnd
  rw [hp]
  dsimp only
  refine ⟨by omega, by omega, by omega, fun j h1 h2 d hj => ?_⟩
  have := k4 (j - i) (by omega)
  rw [hd (j - i) d (by rw [show i + (j - i) = j by omega]; exact hj)] at this
  exact this
theorem enc_hi {r : Int} (h : 128 ≤ r) : (∃ a b, Utf8.encode r = mkB [a, b] ∧ 128 ≤ b.toNat) ∨ 3 ≤ (Utf8.encode r).size := by
  unfold Utf8.encode
  dsimp only
  have hc : 128 ≤ (if Utf8.valid r = true then r.toNat else Utf8.runeError) := by
    split
    · omega
    · decide
  generalize (if Utf8.valid r = true then r.toNat else Utf8.runeError) = c at hc
  rw [if_neg (by omega)]
  split
  · refine .inl ⟨_, _, rfl, ?_⟩
    simp; omega
  · right
    split
    · exact Nat.le_refl 3
    · exact Nat.le_succ 3
theorem sAt_mk (l : Bs) {i : Nat} {c : UInt8} (h : l[i]? = some c) : sAt (mkB l) (i : Int) = some (u8i c) := sAt_some h
/-- the rune r among the two signs -/
theorem rune_eq {r : Int} (h0 : 0 ≤ r) (h1 : r ≤ 1114111) : ∃ n, strings_IndexRune (mkB [32, 44]) r = some n ∧ (0 ≤ n ↔ r = 32 ∨ r = 44) := by
  unfold strings_IndexRune
  by_cases h : r < 128
  · rw [if_pos (by simp; omega)]
    refine ⟨_, rfl, ?_⟩
    have hw : (IntKind.wrap .u8 r).toNat.toUInt8 = UInt8.ofNat r.toNat := by
      simp only [IntKind.wrap, IntKind.bits, IntKind.signed]
      simp
      congr 1; omega
    show 0 ≤ Lib.indexByte [32, 44] (IntKind.wrap .u8 r).toNat.toUInt8 ↔ _
    rw [hw]
    have all : ((List.range 128).all fun n => decide (0 ≤ Lib.indexByte [32, 44] (UInt8.ofNat n)) == decide (n = 32 ∨ n = 44)) = true := by kernel_rfl
    have := List.all_eq_true.1 all r.toNat (List.mem_range.2 (by omega))
    rw [beq_iff_eq, Bool.eq_iff_iff, decide_eq_true_iff, decide_eq_true_iff] at this
    rw [this]; omega
  · have hno : ¬ (r = 32 ∨ r = 44) := by omega
    rw [if_neg (by simp; omega)]
    by_cases e : r = 65533
    · subst e
      rw [if_pos (by decide)]
      have : loopO (fun (x : Nat) => strings_IndexRune_L1 (mkB [32, 44]) x) 0 = some (.inl ()) := loopO_of (k := 3) (by kernel_rfl)
      rw [this]
      exact ⟨-1, rfl, by omega⟩
    · rw [if_neg (by simpa using e)]
      have hv : ∃ b, unicode_utf8_ValidRune r = some b := by unfold unicode_utf8_ValidRune; split; exact ⟨_, rfl⟩; split <;> exact ⟨_, rfl⟩
      obtain ⟨b, hb⟩ := hv
      rw [hb, bind1_some]
      cases b with
      | false => exact ⟨-1, rfl, by omega⟩
      | true =>
        rw [if_neg (by decide)]
        have hl : ∃ q, strings_IndexRune_L2 r (mkB [32, 44]) = some (.inr q) ∧ (q = .inl () ∨ q = .inr (-1)) := by
          unfold strings_IndexRune_L2
          rcases enc_hi (r := r) (by omega) with ⟨a, b, he, hb⟩ | h3
          · rw [he]
            have e1 : IntKind.wrap .i64 (((mkB [a, b]).size : Int) - 1) = 1 := rfl
            have e2 : IntKind.wrap .i64 (1 + 1) = 2 := rfl
            rw [e1, e2, if_pos (by decide)]
            have s1 : sAt (mkB [32, 44]) 1 = some 44 := rfl
            have s2 : sAt (mkB [a, b]) 1 = some (u8i b) := sAt_mk [a, b] (i := 1) rfl
            have s3 : sCut (mkB [32, 44]) 2 (mkB [32, 44]).size = some (mkB []) := rfl
            rw [s1, bind1_some, s2, bind1_some, if_pos (by unfold u8i; simp; omega), s3, bind1_some, bind1_some]
            have s4 : indexByteC (mkB []) (u8i b) = some (-1) := rfl
            rw [s4]
            exact ⟨_, rfl, .inr rfl⟩
          · have hs : (Utf8.encode r).size ≤ 4 := by
              unfold Utf8.encode
              dsimp only
              generalize (if Utf8.valid r = true then r.toNat else Utf8.runeError) = c
              split
              · exact Nat.le_of_ble_eq_true rfl
              · split
                · exact Nat.le_of_ble_eq_true rfl
                · split
                  · exact Nat.le_of_ble_eq_true rfl
                  · exact Nat.le_of_ble_eq_true rfl
            rw [if_neg]
            · exact ⟨_, rfl, .inl rfl⟩
            · rw [wrap_i64 _ (by omega) (by omega), size_mk]
              simp; omega
        obtain ⟨q, hq, hq2⟩ := hl
        have : loopO (fun (x : Unit) => strings_IndexRune_L2 r (mkB [32, 44])) () = some q := loopO_out hq
        rw [this]
        rcases hq2 with rfl | rfl
        · exact ⟨-1, rfl, by omega⟩
        · exact ⟨-1, rfl, by omega⟩
theorem rune_le (s : ByteArray) (i : Nat) : 0 ≤ runeAt s i ∧ runeAt s i ≤ 1114111 := by
  unfold runeAt Utf8.decode
  dsimp only
  have hg : ∀ k, (s.get! (i + k)).toNat < 256 := fun k => UInt8.toNat_lt _
  refine ⟨by omega, ?_⟩
  split
  · have := hg 0; dsimp only; omega
  · split
    · split
      · dsimp only; omega
      · decide
    · split
      · split
        · dsimp only; omega
        · decide
      · split
        · split
          · rename_i h; simp only [Utf8.valid, Bool.and_eq_true, Bool.or_eq_true, decide_eq_true_eq] at h; dsimp only; omega
          · decide
        · decide
/-- any sign of the two from a place on -/
theorem L3_eq (s : ByteArray) : ∀ (n i : Nat), (bs s).length - i ≤ n → i ≤ (bs s).length → ∃ q, loopO (fun (x : Nat) => strings_IndexAny_L3 s (mkB [32, 44]) x) i = some q ∧ (((bs s).drop i).any sepC = false → q = .inl ()) ∧ (((bs s).drop i).any sepC = true → ∃ k : Nat, q = .inr (k : Int))
  | n, i, hn, hi => by
    by_cases hlt : i < (bs s).length
    · obtain ⟨c, hc⟩ : ∃ c, (bs s)[i]? = some c := ⟨_, List.getElem?_eq_getElem hlt⟩
      have hd : (bs s).drop i = c :: (bs s).drop (i + 1) := by rw [List.drop_eq_getElem_cons hlt]; rw [List.getElem?_eq_getElem hlt] at hc; cases hc; rfl
      obtain ⟨m, hm, hm2⟩ := rune_eq (rune_le s i).1 (rune_le s i).2
      have step : strings_IndexAny_L3 s (mkB [32, 44]) i = some (if 0 ≤ m then .inr (.inr ((i : Nat) : Int)) else .inl (runeEnd s i)) := by
        unfold strings_IndexAny_L3
        rw [size_bs, if_pos hlt, hm, bind1_some]
        by_cases h : 0 ≤ m
        · simp [h]
        · rw [if_neg h, if_neg (by simpa using h)]
      by_cases hlo : c.toNat < 128
      · obtain ⟨r1, r2⟩ := dec_lo hc hlo
        rw [r1] at hm2
        have hsep : sepC c = true ↔ 0 ≤ m := by
          rw [hm2]; unfold sepC
          have a := u8i_eq c 32 (by decide); have b := u8i_eq c 44 (by decide)
          simp only [Bool.or_eq_true, beq_iff_eq]
          have a : (u8i c = 32) = (c = 32) := a
          have b : (u8i c = 44) = (c = 44) := b
          rw [a, b]
        by_cases h : 0 ≤ m
        · rw [if_pos h] at step
          refine ⟨_, loopO_out step, fun hf => ?_, fun _ => ⟨i, rfl⟩⟩
          rw [hd, List.any_cons, hsep.2 h] at hf; cases hf
        · rw [if_neg h, r2] at step
          have hsf : sepC c = false := by cases hs : sepC c; rfl; exact absurd (hsep.1 hs) h
          obtain ⟨q, q1, q2⟩ := L3_eq s (n - 1) (i + 1) (by omega) (by omega)
          refine ⟨q, by rw [loopO_go step]; exact q1, ?_⟩
          rw [hd, List.any_cons, hsf, Bool.false_or]; exact q2
      · obtain ⟨r1, r2, r3, r4⟩ := dec_hi hc (by omega)
        have h : ¬ 0 ≤ m := fun h => by have := hm2.1 h; omega
        rw [if_neg h] at step
        obtain ⟨q, q1, q2⟩ := L3_eq s (n - 1) (runeEnd s i) (by omega) r3
        refine ⟨q, by rw [loopO_go step]; exact q1, ?_⟩
        have e : ((bs s).drop i).any sepC = ((bs s).drop (runeEnd s i)).any sepC := by
          have e1 : (bs s).drop i = ((bs s).drop i).take (runeEnd s i - i) ++ (bs s).drop (runeEnd s i) := by
            conv => lhs; rw [← List.take_append_drop (runeEnd s i - i) ((bs s).drop i)]
            rw [List.drop_drop, show i + (runeEnd s i - i) = runeEnd s i by omega]
          rw [e1, List.any_append]
          have : (((bs s).drop i).take (runeEnd s i - i)).any sepC = false := by
            rw [List.any_eq_false]
            intro d hd2
            obtain ⟨k, hk, rfl⟩ := List.mem_iff_getElem.1 hd2
            rw [List.length_take, List.length_drop] at hk
            have hk2 : (bs s)[i + k]? = some ((((bs s).drop i).take (runeEnd s i - i))[k]'(by rw [List.length_take, List.length_drop]; omega)) := by
              rw [List.getElem_take, List.getElem_drop, List.getElem?_eq_getElem]
            have := r4 (i + k) (by omega) (by omega) _ hk2
            intro hsep
            unfold sepC at hsep
            simp only [Bool.or_eq_true, beq_iff_eq] at hsep
            rcases hsep with h | h <;> rw [h] at this <;> exact absurd this (by decide)
          rw [this, Bool.false_or]
        rw [e]; exact q2
    · have : i = (bs s).length := by omega
      subst this
      refine ⟨_, loopO_out (by unfold strings_IndexAny_L3; rw [size_bs, if_neg (Nat.lt_irrefl _)]), fun _ => rfl, fun h => ?_⟩
      rw [List.drop_length] at h; cases h
  termination_by n i => (bs s).length - i
def setA : Arr 256 Bool := ⟨(List.range 256).map fun i => decide (i = 32 ∨ i = 44), by simp⟩
theorem mkSet : strings_makeASCIISet (mkB [32, 44]) = some (setA, true) := by
  unfold strings_makeASCIISet
  have : loopO (fun (x : (Int × (Arr 256 Bool))) => strings_makeASCIISet_L1 (mkB [32, 44]) x.1 x.2) (0, (arrR 256 false : Arr 256 Bool)) = some (.inl setA) := loopO_of (k := 4) (by kernel_rfl)
  rw [this]; rfl
theorem setA_at (c : UInt8) : ga setA (u8i c) = some (sepC c) := by
  have all : ((List.range 256).all fun n => decide (ga setA (n : Int) = some (sepC (UInt8.ofNat n)))) = true := by kernel_rfl
  have := of_decide_eq_true (List.all_eq_true.1 all c.toNat (List.mem_range.2 c.toNat_lt))
  rw [UInt8.ofNat_toNat] at this
  exact this
theorem arB_inj : ∀ (x y : Arr 256 Bool), arB 256 x = arB 256 y → x = y := by
  intro x y h
  have e : ∀ (x : Arr 256 Bool), (List.range 256).map x.g = x.l := fun x => by
    apply List.ext_getElem?
    intro j
    rw [List.getElem?_map]
    have := x.h
    by_cases hj : j < 256
    · rw [List.getElem?_range hj]; show some (x.l[j]?.getD default) = _; rw [List.getElem?_eq_getElem (by omega)]; rfl
    · rw [List.getElem?_eq_none (by simpa using hj), List.getElem?_eq_none (by omega)]; rfl
  have h2 : (List.range 256).map x.g = (List.range 256).map y.g := by
    have := congrArg (List.map fun (c : MC) => match c.2 with | .bool b => b | _ => false) h
    unfold arB at this
    rw [List.map_map, List.map_map] at this
    exact this
  rw [e, e] at h2
  cases x; cases y; simp at h2; subst h2; rfl
theorem arB_len (x : Arr 256 Bool) : (o_r256_bool x).length = 256 := by unfold o_r256_bool arB; simp
theorem cont_any (H : Heap) (s : ByteArray) (hs : s.size < 4294967281) : ∃ E, strings_ContainsAny H s (mkB [32, 44]) = some (H ++ E, (bs s).any sepC) := by
  have fin : ∀ H' q, strings_IndexAny H s (mkB [32, 44]) = some (H', q) → strings_ContainsAny H s (mkB [32, 44]) = some (H', decide (q ≥ 0)) := fun H' q h => by unfold strings_ContainsAny; rw [h]; rfl
  unfold strings_IndexAny at fin
  have e0 : strEq (mkB [32, 44]) ByteArray.empty = false := by rw [strEq_nil]; rfl
  rw [e0, if_neg (by decide), if_neg (show ¬ (((mkB [32, 44]).size : Int) == 1) = true by decide)] at fin
  have e1 : strings_shouldUseASCIISet (s.size : Int) = some (decide ((s.size : Int) > 8)) := rfl
  rw [e1, bind1_some] at fin
  by_cases h8 : (s.size : Int) > 8
  · rw [if_pos (by simpa using h8), mkSet, bind2_some, bnd_def, bnd_def] at fin
    have g1 : get_r256_bool (new_r256_bool H (arrR 256 false)) H.length 0 = some (arrR 256 false) := by
      have := hgT_new (en := o_r256_bool) (n := 256) arB_inj arB_len H (arrR 256 false)
      exact this
    rw [g1, bind1_some, bnd_def, if_pos rfl] at fin
    have g2 : get_r256_bool (set_r256_bool (new_r256_bool H (arrR 256 false)) H.length 0 setA) H.length 0 = some setA := hgT_set (en := o_r256_bool) (n := 256) arB_inj arB_len g1 setA
    have e2 : set_r256_bool (new_r256_bool H (arrR 256 false)) H.length 0 setA = H ++ [o_r256_bool setA] := by
      unfold set_r256_bool new_r256_bool
      rw [hset_eq (c := o_r256_bool (arrR 256 false)) (by simp)]
      have : setAt (o_r256_bool (arrR 256 false)) 0 (o_r256_bool setA) = o_r256_bool setA := by
        unfold setAt; rw [arB_len]; rw [List.take_zero, List.drop_eq_nil_of_le (by rw [arB_len]; omega)]; simp
      rw [this]; simp
    have hl := loop_find (xs := bs s) (f := fun (x : Int) => strings_IndexAny_L4 s (set_r256_bool (new_r256_bool H (arrR 256 false)) H.length 0 setA) H.length x) (fun i c => if sepC c then some (.inr ((i : Nat) : Int)) else none) (.inl ())
      (fun i c hc => by
        have hl := len_of hc
        rw [size_bs] at hs
        unfold strings_IndexAny_L4 strings_asciiSet_contains
        rw [size_bs, i_lt hc, if_pos rfl, sAt_some hc, bind1_some, pbnd_at, g2, bind1_some, setA_at, bind1_some, bind1_some, wr64 i (by omega)]
        cases sepC c <;> rfl)
      (by unfold strings_IndexAny_L4; rw [size_bs, i_ge, if_neg (by decide)])
    rw [hl, bind1_some, e2] at fin
    refine ⟨[o_r256_bool setA], ?_⟩
    have key : ∀ (l : Bs) (i : Nat), (l.any sepC = false → findG (fun i c => if sepC c then some (.inr ((i : Nat) : Int) : Unit ⊕ Int) else none) (.inl ()) i l = .inl ()) ∧ (l.any sepC = true → ∃ k : Nat, findG (fun i c => if sepC c then some (.inr ((i : Nat) : Int) : Unit ⊕ Int) else none) (.inl ()) i l = .inr (k : Int)) := by
      intro l
      induction l with
      | nil => intro i; exact ⟨fun _ => rfl, fun h => by cases h⟩
      | cons c l ih =>
        intro i
        unfold findG
        rw [List.any_cons]
        cases hc : sepC c with
        | true => exact ⟨fun h => by simp at h, fun _ => ⟨i, rfl⟩⟩
        | false => rw [Bool.false_or]; exact ih (i + 1)
    cases ha : (bs s).any sepC with
    | false => rw [(key (bs s) 0).1 ha] at fin; exact fin _ _ rfl
    | true =>
      obtain ⟨k, hk⟩ := (key (bs s) 0).2 ha
      rw [hk] at fin
      have := fin _ _ rfl
      rw [decide_eq_true (show ((k : Nat) : Int) ≥ 0 by omega)] at this
      exact this
  · rw [if_neg (by simpa using h8)] at fin
    unfold strings_IndexAny_j2 at fin
    obtain ⟨q, q1, q2, q3⟩ := L3_eq s (bs s).length 0 (by omega) (Nat.zero_le _)
    rw [q1, bind1_some] at fin
    refine ⟨[], ?_⟩
    rw [List.append_nil]
    rw [List.drop_zero] at q2 q3
    cases ha : (bs s).any sepC with
    | false => rw [q2 ha] at fin; exact fin _ _ rfl
    | true =>
      obtain ⟨k, rfl⟩ := q3 ha
      have := fin _ _ rfl
      rw [decide_eq_true (show ((k : Nat) : Int) ≥ 0 by omega)] at this
      exact this
end Go.Proofs.Abs
/- A line's words, by the program. Numbers as texts. -/
namespace Go.Proofs.Abs
open Go
set_option linter.unusedVariables false
set_option linter.unusedSimpArgs false
theorem goodF_eq (f : Bs) : goodF f = !(decide (f = []) || f.any sepC) := by
  unfold goodF
  have : (f.all fun c => c != 32 && c != 44) = !f.any sepC := by
    rw [List.not_any_eq_all_not]
    congr 1
    funext c
    unfold sepC; simp; rfl
  rw [this]
  cases f <;> simp
theorem words_L1 (fl : List Bs) (hb : ∀ f ∈ fl, f.length < 4294967281) (hn : fl.length < 4294967281) : ∀ (l : List Bs) (i : Nat) (h : Heap), fl.drop i = l → i ≤ fl.length → ∃ E, loopO (fun (x : (Int × Heap)) => asm_words_L1 (fl.map mkB) x.1 x.2) ((i : Int), h) = some (if l.all goodF then .inl (h ++ E) else .inr (h ++ E))
  | [], i, h, hl, hi => by
    have : i = fl.length := by have := congrArg List.length hl; simp at this; omega
    subst this
    refine ⟨[], loopO_out ?_⟩
    unfold asm_words_L1
    have := i_ge (fl.map mkB)
    rw [List.length_map] at this ⊢
    rw [this, if_neg (by decide), List.append_nil]; rfl
  | x :: l, i, h, hl, hi => by
    have hx : fl[i]? = some x := by have := congrArg (·[0]?) hl; simpa using this
    have hlt := len_of hx
    have hx' : (fl.map mkB)[i]? = some (mkB x) := by rw [List.getElem?_map, hx]; rfl
    have hd : fl.drop (i + 1) = l := by rw [← List.drop_drop, hl]; rfl
    obtain ⟨E1, c1⟩ := cont_any h (mkB x) (by rw [size_mk]; exact hb x (List.mem_of_getElem? hx))
    have step : ∃ E0, asm_words_L1 (fl.map mkB) (i : Int) h = some (if goodF x then .inl (((i + 1 : Nat) : Int), h ++ E0) else .inr (.inr (h ++ E0))) := by
      unfold asm_words_L1
      rw [i_lt hx', if_pos rfl, gi_nat hx', bind1_some, strEq_nil, bs_mk, wr64 i (by omega), goodF_eq]
      by_cases e : x = []
      · refine ⟨[], ?_⟩
        rw [decide_eq_true e, if_pos rfl, bind2_some, if_pos rfl, List.append_nil]; rfl
      · have c2 : strings_ContainsAny h (mkB x) { data := #[32, 44] } = _ := c1
        rw [decide_eq_false e, if_neg (by decide), c2, bind2_some, bind2_some, bs_mk]
        refine ⟨E1, ?_⟩
        cases x.any sepC <;> rfl
    obtain ⟨E0, h0⟩ := step
    rw [List.all_cons]
    cases hg : goodF x with
    | false =>
      rw [hg] at h0
      exact ⟨E0, loopO_out h0⟩
    | true =>
      rw [hg] at h0
      obtain ⟨E2, h2⟩ := words_L1 fl hb hn l (i + 1) (h ++ E0) hd hlt
      refine ⟨E0 ++ E2, ?_⟩
      rw [loopO_go (s' := (((i + 1 : Nat) : Int), h ++ E0)) h0, h2, Bool.true_and, List.append_assoc]
theorem split_le : ∀ (n : Nat) (s : Bs), s.length ≤ n → (Lib.split s [44, 32]).length ≤ s.length + 1 ∧ ∀ f ∈ Lib.split s [44, 32], f.length ≤ s.length
  | n, s, h => by
    rcases Lib.index_spec s [44, 32] with ⟨hi, _⟩ | ⟨i, hi, hle, ho, _⟩
    · rw [split_miss hi]; simp
    · have hr := Lib.index_room s [44, 32] (by omega)
      rw [hi] at hr
      have hr : i + 2 ≤ s.length := by simpa using (by exact_mod_cast hr : i + ([44, 32] : Bs).length ≤ s.length)
      obtain ⟨i1, i2⟩ := split_le (n - 1) (s.drop (i + 2)) (by simp; omega)
      rw [split_hit (by simp) hi]
      have e2 : s.drop (i + ([44, 32] : Bs).length) = s.drop (i + 2) := rfl
      rw [e2]
      rw [List.length_drop] at i1 i2
      refine ⟨by simp; omega, fun f hf => ?_⟩
      rcases List.mem_cons.1 hf with rfl | hf
      · simp; omega
      · have := i2 f hf; omega
  termination_by n s => s.length
theorem asm_words_eq (H : Heap) (s : ByteArray) (hs : s.size < 4294967280) : ∃ E, asm_words H s = some (match wordsS (bs s) with
    | some (h, fs) => (H ++ E, mkB h, fs.map mkB, true)
    | none => (H ++ E, mkB [], [], false)) := by
  unfold asm_words wordsS
  have c : cutC s { data := #[32] } = _ := cutC_eq s (by omega)
  rw [c]
  by_cases e : ((bs s).takeWhile (· != 32)).length = (bs s).length
  · rw [if_pos e, if_pos e, bind3_some, if_pos (by decide)]
    exact ⟨[], by rw [List.append_nil]; rfl⟩
  · rw [if_neg e, if_neg e, bind3_some, if_neg (by decide)]
    generalize hr : (bs s).drop (((bs s).takeWhile (· != 32)).length + 1) = rest
    have hrl : rest.length ≤ (bs s).length := by rw [← hr]; simp
    rw [size_bs] at hs
    have sp : splitC (mkB rest) { data := #[44, 32] } = _ := splitC_eq (mkB rest) [44, 32] (by rw [size_mk]; omega) (by simp)
    rw [sp, bind1_some, bs_mk]
    obtain ⟨l1, l2⟩ := split_le _ rest (Nat.le_refl _)
    obtain ⟨E, hE⟩ := words_L1 (Lib.split rest [44, 32]) (fun f hf => by have := l2 f hf; omega) (by omega) _ 0 H rfl (Nat.zero_le _)
    have hE : loopO (fun (x : (Int × Heap)) => asm_words_L1 ((Lib.split rest [44, 32]).map mkB) x.1 x.2) (0, H) = _ := hE
    refine ⟨E, ?_⟩
    rw [hE, bind1_some]
    unfold fieldsS
    rw [List.drop_zero]
    cases hg : (Lib.split rest [44, 32]).all goodF <;> rfl
end Go.Proofs.Abs
/- Numbers as texts. -/
namespace Go.Proofs.Abs
open Go
set_option linter.unusedVariables false
set_option linter.unusedSimpArgs false
/-- digits of a number in a base, at least so many -/
def chD (d : Nat) : UInt8 := if d < 10 then UInt8.ofNat (48 + d) else UInt8.ofNat (87 + d)
def dg (b : Nat) : Nat → Nat → Nat → Bs → Bs
  | 0, _, _, acc => acc
  | k + 1, n, L, acc => if 0 < n ∨ 0 < L then dg b k (n / b) (L - 1) (chD (n % b) :: acc) else acc
def natD (m : Nat) : Bs := dg 10 64 m 1 []
def decS (n : Int) : Bs := if n < 0 then 45 :: natD (-n).toNat else natD n.toNat
theorem dg_zero (b k : Nat) (acc : Bs) : dg b k 0 0 acc = acc := by cases k <;> rfl
theorem dg_acc (b : Nat) : ∀ (k n L : Nat) (acc : Bs), dg b k n L acc = dg b k n L [] ++ acc
  | 0, _, _, _ => rfl
  | k + 1, n, L, acc => by
    unfold dg
    split
    · rw [dg_acc b k _ _ (_ :: acc), dg_acc b k _ _ [_]]; simp
    · rfl
theorem dg_fuel {b : Nat} (hb : 2 ≤ b) : ∀ (k j n L : Nat) (acc : Bs), n < 2 ^ k → L ≤ k → k ≤ j → dg b j n L acc = dg b k n L acc
  | 0, j, n, L, acc, h, hL, _ => by
    have h1 : n = 0 := by simpa using h
    have h2 : L = 0 := by omega
    subst h1; subst h2; rw [dg_zero]; rfl
  | k + 1, 0, n, L, acc, _, _, h => by omega
  | k + 1, j + 1, n, L, acc, h, hL, hj => by
    unfold dg
    split
    · have : n / b < 2 ^ k := by
        rw [Nat.div_lt_iff_lt_mul (by omega)]
        rw [Nat.pow_succ] at h
        exact Nat.lt_of_lt_of_le h (Nat.mul_le_mul_left _ hb)
      exact dg_fuel hb k j _ _ _ this (by omega) (by omega)
    · rfl
theorem natD_lo {m : Nat} (h : m < 10) : natD m = [UInt8.ofNat (48 + m)] := by
  unfold natD dg
  rw [if_pos (.inr (by decide)), Nat.div_eq_of_lt h, Nat.mod_eq_of_lt h, dg_zero]
  unfold chD; rw [if_pos h]
theorem natD_hi {m : Nat} (h : 10 ≤ m) (h2 : m < 18446744073709551616) : natD m = natD (m / 10) ++ [UInt8.ofNat (48 + m % 10)] := by
  have e : natD m = dg 10 63 (m / 10) 0 [chD (m % 10)] := by
    unfold natD
    conv => lhs; unfold dg
    rw [if_pos (.inr (by decide))]
  have hc : chD (m % 10) = UInt8.ofNat (48 + m % 10) := if_pos (by omega)
  have h0 : dg 10 63 (m / 10) 0 [] = dg 10 63 (m / 10) 1 [] := by
    unfold dg
    have : 0 < m / 10 := by omega
    rw [if_pos (.inl this), if_pos (.inl this)]
  rw [e, dg_acc, hc, h0]
  unfold natD
  rw [dg_fuel (by decide) 63 64 _ _ _ (by omega) (by decide) (by decide)]
def isD (c : UInt8) : Bool := decide (48 ≤ c.toNat ∧ c.toNat ≤ 57)
def valF (n : Nat) (l : Bs) : Nat := l.foldl (fun n c => n * 10 + (c.toNat - 48)) n
def valS (l : Bs) : Nat := valF 0 l
def canon (d : Bs) : Bool := !d.isEmpty && (d.all isD && (decide (d.length ≤ 1) || !(d.head? == some 48)))
theorem ofNat_dig {m : Nat} (h : m < 10) : (UInt8.ofNat (48 + m)).toNat = 48 + m := by simp; omega
theorem natD_spec : ∀ (k m : Nat), m < 10 ^ k → 1 ≤ k → k ≤ 19 → natD m ≠ [] ∧ (natD m).all isD = true ∧ (natD m).length ≤ k ∧ valS (natD m) = m ∧ (1 ≤ m → (natD m).head? ≠ some 48) ∧ (m < 10 → (natD m).length = 1)
  | 0, m, _, h, _ => by omega
  | k + 1, m, h, _, hk => by
    by_cases h10 : m < 10
    · rw [natD_lo h10]
      have := ofNat_dig h10
      refine ⟨by simp, by simp [isD]; omega, by simp, ?_, fun hm e => ?_, fun _ => rfl⟩
      · simp only [valS, valF, List.foldl_cons, List.foldl_nil]; rw [this]; omega
      · have e : UInt8.ofNat (48 + m) = 48 := by simpa using e
        rw [e] at this
        have : 48 = 48 + m := this
        omega
    · have hm : m < 18446744073709551616 := by
        have : 10 ^ (k + 1) ≤ 10 ^ 19 := Nat.pow_le_pow_right (by decide) hk
        omega
      have hk1 : 1 ≤ k := by
        cases k with
        | zero => simp at h; omega
        | succ k => omega
      rw [Nat.pow_succ] at h
      obtain ⟨i1, i2, i3, i4, i5, i6⟩ := natD_spec k (m / 10) (by omega) hk1 (by omega)
      rw [natD_hi (by omega) hm]
      have := ofNat_dig (m := m % 10) (by omega)
      refine ⟨by simp, ?_, by simp; omega, ?_, fun _ => ?_, fun h => absurd h h10⟩
      · rw [List.all_append, i2]; simp [isD]; omega
      · unfold valS valF at i4 ⊢
        rw [List.foldl_append, i4]
        simp only [List.foldl_cons, List.foldl_nil]; rw [this]; omega
      · rw [List.head?_append]
        cases hh : (natD (m / 10)).head? with
        | none => rw [List.head?_eq_none_iff] at hh; exact absurd hh i1
        | some c => rw [hh] at i5; simpa using i5 (by omega)
theorem valF_ge : ∀ (l : Bs) (n : Nat), n ≤ valF n l
  | [], n => Nat.le_refl _
  | c :: l, n => by
    have := valF_ge l (n * 10 + (c.toNat - 48))
    show n ≤ valF (n * 10 + (c.toNat - 48)) l
    omega
theorem valF_lt : ∀ (l : Bs) (n : Nat), l.all isD = true → valF n l < (n + 1) * 10 ^ l.length
  | [], n, _ => by simp [valF]
  | c :: l, n, h => by
    simp only [List.all_cons, Bool.and_eq_true] at h
    have hc : 48 ≤ c.toNat ∧ c.toNat ≤ 57 := of_decide_eq_true h.1
    have := valF_lt l (n * 10 + (c.toNat - 48)) h.2
    show valF (n * 10 + (c.toNat - 48)) l < _
    rw [List.length_cons, Nat.pow_succ]
    have h2 : (n * 10 + (c.toNat - 48) + 1) * 10 ^ l.length ≤ ((n + 1) * 10) * 10 ^ l.length := Nat.mul_le_mul_right _ (by omega)
    have h3 : (n + 1) * 10 * 10 ^ l.length = (n + 1) * (10 ^ l.length * 10) := by rw [Nat.mul_assoc, Nat.mul_comm 10]
    omega
theorem valS_lt {l : Bs} (h : l.all isD = true) : valS l < 10 ^ l.length := by have := valF_lt l 0 h; simpa [valS] using this
theorem natD_val : ∀ (n : Nat) (d : Bs), d.length = n → canon d = true → n ≤ 19 → natD (valS d) = d
  | 0, d, h, hc, _ => by rw [List.length_eq_zero_iff.1 h] at hc; cases hc
  | n + 1, d, h, hc, hn => by
    have hne : d ≠ [] := by intro e; subst e; cases h
    obtain ⟨d', c, rfl⟩ : ∃ d' c, d = d' ++ [c] := ⟨d.dropLast, d.getLast hne, (List.dropLast_concat_getLast hne).symm⟩
    have hl : d'.length = n := by simpa using h
    unfold canon at hc
    rw [List.all_append] at hc
    simp only [Bool.and_eq_true, List.all_cons, List.all_nil, Bool.or_eq_true, decide_eq_true_eq, Bool.not_eq_true', beq_eq_false_iff_ne] at hc
    have hd : 48 ≤ c.toNat ∧ c.toNat ≤ 57 := of_decide_eq_true hc.2.1.2.1
    have hv : valS (d' ++ [c]) = valS d' * 10 + (c.toNat - 48) := by unfold valS valF; rw [List.foldl_append]; rfl
    have hcc : UInt8.ofNat (48 + (c.toNat - 48)) = c := by rw [show 48 + (c.toNat - 48) = c.toNat by omega, UInt8.ofNat_toNat]
    rw [hv]
    cases n with
    | zero =>
      have : d' = [] := List.length_eq_zero_iff.1 hl
      subst this
      show natD (0 * 10 + (c.toNat - 48)) = [c]
      rw [natD_lo (by omega), Nat.zero_mul, Nat.zero_add, hcc]
    | succ n =>
      have hne' : d' ≠ [] := by intro e; subst e; cases hl
      have hh : d'.head? ≠ some 48 := by
        rcases hc.2.2 with h | h
        · rw [List.length_append, List.length_cons, List.length_nil] at h; omega
        · rw [List.head?_append] at h
          intro e; rw [e] at h; simp at h
      have hpos : 1 ≤ valS d' := by
        cases d' with
        | nil => exact absurd rfl hne'
        | cons x r =>
          have hx : 48 ≤ x.toNat ∧ x.toNat ≤ 57 := by have := hc.2.1.1; simp only [List.all_cons, Bool.and_eq_true] at this; exact of_decide_eq_true this.1
          have hx2 : x.toNat ≠ 48 := fun e => hh (by show some x = some 48; rw [show x = 48 from UInt8.toNat_inj.1 e])
          have := valF_ge r (0 * 10 + (x.toNat - 48))
          show 1 ≤ valF (0 * 10 + (x.toNat - 48)) r
          omega
      have hlt := valS_lt hc.2.1.1
      have hp : 10 ^ d'.length ≤ 10 ^ 18 := Nat.pow_le_pow_right (by decide) (by omega)
      have hlt2 : valS d' < 1000000000000000000 := Nat.lt_of_lt_of_le hlt hp
      rw [natD_hi (m := valS d' * 10 + (c.toNat - 48)) (by omega) (by omega), show (valS d' * 10 + (c.toNat - 48)) / 10 = valS d' by clear hpos; omega, show (valS d' * 10 + (c.toNat - 48)) % 10 = c.toNat - 48 by clear hpos; omega, hcc,
        natD_val (n + 1) d' hl (by unfold canon; simp only [Bool.and_eq_true, Bool.or_eq_true, decide_eq_true_eq, Bool.not_eq_true', beq_eq_false_iff_ne]; exact ⟨by cases d'; exact absurd rfl hne'; rfl, hc.2.1.1, .inr hh⟩) (by omega)]
theorem natD_canon {m : Nat} (h : m < 10000000000) : canon (natD m) = true ∧ (natD m).length ≤ 10 := by
  obtain ⟨i1, i2, i3, i4, i5, i6⟩ := natD_spec 10 m h (by decide) (by decide)
  refine ⟨?_, i3⟩
  unfold canon
  simp only [Bool.and_eq_true, Bool.or_eq_true, decide_eq_true_eq, Bool.not_eq_true', beq_eq_false_iff_ne]
  refine ⟨by cases hh : natD m; exact absurd hh i1; rfl, i2, ?_⟩
  by_cases h10 : m < 10
  · left; rw [i6 h10]; exact Nat.le_refl _
  · right; exact i5 (by omega)
/-- the number that a text tells -/
def parseS (l : Bs) : Option Int :=
  if l.head? = some 45 then (if canon l.tail ∧ l.tail.length ≤ 10 ∧ l.tail ≠ [48] ∧ valS l.tail ≤ 2147483648 then some (-(valS l.tail : Int)) else none)
  else if canon l ∧ l.length ≤ 10 ∧ valS l ≤ 2147483647 then some (valS l : Int) else none
theorem natD_hd {m : Nat} (h : m < 10000000000) : (natD m).head? ≠ some 45 := by
  obtain ⟨i1, i2, _⟩ := natD_spec 10 m h (by decide) (by decide)
  cases hh : natD m with
  | nil => exact absurd hh i1
  | cons x r =>
    rw [hh] at i2
    simp only [List.all_cons, Bool.and_eq_true] at i2
    have := of_decide_eq_true i2.1
    intro e
    have e : x = 45 := by simpa using e
    subst e
    exact absurd this (by decide)
theorem dec_parse {l : Bs} {n : Int} (h : parseS l = some n) : decS n = l := by
  unfold parseS at h
  split at h
  · rename_i h0
    split at h
    · rename_i hc
      cases h
      obtain ⟨c1, c2, c3, c4⟩ := hc
      have hl : l = 45 :: l.tail := by cases l with
        | nil => cases h0
        | cons x r => have : x = 45 := by simpa using h0
                      rw [this]; rfl
      have hv : valS l.tail ≠ 0 := fun e => by
        have := natD_val _ _ rfl c1 (by omega)
        rw [e] at this
        exact c3 (this.symm.trans (natD_lo (by decide)))
      unfold decS
      rw [if_pos (by omega), Int.neg_neg, Int.toNat_natCast, natD_val _ _ rfl c1 (by omega)]
      exact hl.symm
    · cases h
  · split at h
    · rename_i hc
      cases h
      unfold decS
      rw [if_neg (by omega), Int.toNat_natCast, natD_val _ _ rfl hc.1 (by omega)]
    · cases h
theorem parse_dec {n : Int} (h1 : -2147483648 ≤ n) (h2 : n ≤ 2147483647) : parseS (decS n) = some n := by
  unfold decS parseS
  by_cases h : n < 0
  · rw [if_pos h]
    obtain ⟨c1, c2⟩ := natD_canon (m := (-n).toNat) (by omega)
    obtain ⟨_, _, _, i4, _⟩ := natD_spec 10 (-n).toNat (by omega) (by decide) (by decide)
    have hz : natD (-n).toNat ≠ [48] := fun e => by
      rw [e] at i4
      have : valS [48] = 0 := rfl
      omega
    rw [if_pos (show (45 :: natD (-n).toNat).head? = some 45 from rfl), List.tail_cons, if_pos ⟨c1, c2, hz, by rw [i4]; omega⟩, i4]
    congr 1; omega
  · rw [if_neg h]
    obtain ⟨c1, c2⟩ := natD_canon (m := n.toNat) (by omega)
    obtain ⟨_, _, _, i4, _⟩ := natD_spec 10 n.toNat (by omega) (by decide) (by decide)
    rw [if_neg (natD_hd (by omega)), if_pos ⟨c1, c2, by rw [i4]; omega⟩, i4]
    congr 1; omega
theorem parse_iff {l : Bs} {n : Int} : parseS l = some n ↔ decS n = l ∧ -2147483648 ≤ n ∧ n ≤ 2147483647 := by
  constructor
  · intro h
    refine ⟨dec_parse h, ?_⟩
    unfold parseS at h
    split at h
    · split at h
      · rename_i hc; cases h; omega
      · cases h
    · split at h
      · rename_i hc; cases h; omega
      · cases h
  · rintro ⟨rfl, h1, h2⟩; exact parse_dec h1 h2
end Go.Proofs.Abs
/- Numbers written, and read: the program and the document. -/
namespace Go.Proofs.Abs
open Go
set_option linter.unusedVariables false
set_option linter.unusedSimpArgs false
theorem wrap_u8 (x : Int) (h1 : 0 ≤ x) (h2 : x ≤ 255) : IntKind.u8.wrap x = x := by
  simp only [IntKind.wrap, IntKind.bits, IntKind.signed]
  simp
  omega
theorem wrap_i32_mod (x : Int) : IntKind.i32.wrap x = (x + 2147483648) % 4294967296 - 2147483648 := by
  simp only [IntKind.wrap, IntKind.bits, IntKind.signed]
  simp
  omega
theorem wrap_i32 (x : Int) (h1 : -2147483648 ≤ x) (h2 : x ≤ 2147483647) : IntKind.i32.wrap x = x := by rw [wrap_i32_mod]; omega
theorem u8i_of {n : Nat} (h : n < 256) : u8i (UInt8.ofNat n) = n := by unfold u8i; simp; omega
theorem u8i_chD {d : Nat} (h : d < 16) : u8i (chD d) = if d < 10 then ((48 + d : Nat) : Int) else ((87 + d : Nat) : Int) := by
  unfold chD
  split
  · rw [u8i_of (by omega)]
  · rw [u8i_of (by omega)]
theorem digits_L1 {b M : Nat} {p2 : Int} (hb : 2 ≤ b) (hb2 : b ≤ 16) (hM : (if 1 > p2 then 1 else p2) = (M : Int)) (hM2 : M ≤ 64) :
    ∀ (k n : Nat) (arr : Arr 64 Int) (acc : Bs), k ≤ 64 → n < 2 ^ k → arr.l.drop k = acc.map u8i → ∃ (j : Nat) (ar' : Arr 64 Int), loopO (fun (x : (Int × Int × (Arr 64 Int))) => word_digits_L1 p2 (b : Int) x.1 x.2.1 x.2.2) ((n : Int), (k : Int), arr) = some ((j : Int), ar') ∧ j ≤ 64 ∧ ar'.l.drop j = (dg b k n (M + k - 64) acc).map u8i := by
  intro k
  induction k with
  | zero =>
    intro n arr acc hk hn ha
    have : n = 0 := by simpa using hn
    subst this
    refine ⟨0, arr, loopO_out ?_, Nat.zero_le _, ?_⟩
    · unfold word_digits_L1; rw [if_neg (by simp)]
    · rw [show M + 0 - 64 = 0 by omega]; exact ha
  | succ k ih =>
    intro n arr acc hk hn ha
    have hn64 : n < 18446744073709551616 := Nat.lt_of_lt_of_le hn (Nat.pow_le_pow_right (by decide) hk : 2 ^ (k + 1) ≤ 2 ^ 64)
    have hcond : (((decide ((n : Int) > 0)) || ((decide (((k + 1 : Nat) : Int) > (IntKind.wrap .i64 (64 - (if 1 > p2 then 1 else p2))))) && (decide (((k + 1 : Nat) : Int) > 0)))) = true) ↔ 0 < n ∨ 0 < M + (k + 1) - 64 := by
      rw [hM, wrap_i64 _ (by omega) (by omega)]
      simp only [Bool.or_eq_true, Bool.and_eq_true, decide_eq_true_eq]
      omega
    by_cases hc : 0 < n ∨ 0 < M + (k + 1) - 64
    · have hd : n % b < b := Nat.mod_lt _ (by omega)
      have hq : n / b < 2 ^ k := by
        rw [Nat.div_lt_iff_lt_mul (by omega)]
        rw [Nat.pow_succ] at hn
        exact Nat.lt_of_lt_of_le hn (Nat.mul_le_mul_left _ hb)
      have hlen := arr.h
      let ar2 : Arr 64 Int := ⟨arr.l.set k (u8i (chD (n % b))), by rw [List.length_set, arr.h]⟩
      have hdrop : ar2.l.drop k = (chD (n % b) :: acc).map u8i := by
        show (arr.l.set k _).drop k = _
        rw [List.drop_eq_getElem_cons (by rw [List.length_set]; omega), List.getElem_set_self, List.drop_set_of_lt (by omega), ha]
        rfl
      obtain ⟨j, ar', h1, h2, h3⟩ := ih (n / b) ar2 (chD (n % b) :: acc) (by omega) hq hdrop
      have hr : remI .u64 (n : Int) (b : Int) = some ((n % b : Nat) : Int) := by
        unfold remI
        rw [if_neg (by omega), tmod_pos (by omega)]; simp
      have hqi : quoI .u64 (n : Int) (b : Int) = some ((n / b : Nat) : Int) := by
        unfold quoI
        have : n / b ≤ n := Nat.div_le_self _ _
        have e : (n : Int) / (b : Int) = ((n / b : Nat) : Int) := rfl
        rw [if_neg (by omega), tdiv_pos (by omega), e, wrap_u64 _ (Int.natCast_nonneg _) (by omega)]
      have hk1 : IntKind.wrap .i64 (((k + 1 : Nat) : Int) - 1) = (k : Int) := by rw [wrap_i64 _ (by omega) (by omega)]; omega
      have hga : ∃ v, ga arr (k : Int) = some v := by
        unfold ga; rw [if_pos (by omega), Int.toNat_natCast, List.getElem?_eq_getElem (by omega)]; exact ⟨_, rfl⟩
      obtain ⟨v, hv⟩ := hga
      have hsa : sa arr (k : Int) (u8i (chD (n % b))) = some ar2 := by
        unfold sa; rw [if_pos (show 0 ≤ (k : Int) ∧ (k : Int) < (64 : Nat) from ⟨by omega, by omega⟩)]; rfl
      refine ⟨j, ar', ?_, h2, ?_⟩
      · rw [loopO_go (s' := (((n / b : Nat) : Int), (k : Int), ar2)) ?_]
        · exact h1
        · unfold word_digits_L1
          dsimp only
          rw [if_pos (hcond.2 hc), hr, bind1_some, hk1, hv, bind1_some, wrap_u8 ((n % b : Nat) : Int) (by omega) (by omega), bind1_some]
          unfold word_digits_j2
          have hch := u8i_chD (d := n % b) (by omega)
          by_cases h10 : n % b < 10
          · rw [if_pos h10] at hch
            rw [if_pos (by simp; omega), wrap_u8 _ (by omega) (by omega), show (48 + ((n % b : Nat) : Int)) = u8i (chD (n % b)) by rw [hch]; omega, hsa, bind1_some, hqi, bind1_some, hk1]
          · rw [if_neg h10] at hch
            rw [if_neg (by simp; omega), wrap_u8 (97 + _) (by omega) (by omega), wrap_u8 _ (by omega) (by omega), show (97 + ((n % b : Nat) : Int) - 10) = u8i (chD (n % b)) by rw [hch]; omega, hsa, bind1_some, hqi, bind1_some, hk1]
      · conv => rhs; unfold dg
        rw [if_pos hc, h3, show M + (k + 1) - 64 - 1 = M + k - 64 by omega]
    · refine ⟨k + 1, arr, loopO_out ?_, hk, ?_⟩
      · unfold word_digits_L1
        dsimp only
        rw [if_neg (fun h => hc (hcond.1 h))]
      · conv => rhs; unfold dg
        rw [if_neg hc]; exact ha
theorem sOf_u8 (l : Bs) : sOf (l.map u8i) = mkB l := by
  have : ∀ (l : Bs) (r : ByteArray), (l.map u8i).foldl (fun r n => r.push (UInt8.ofNat n.toNat)) r = mkB (bs r ++ l) := by
    intro l
    induction l with
    | nil => intro r; show r = mkB (bs r ++ []); rw [List.append_nil, mk_bs]
    | cons c l ih =>
      intro r
      rw [List.map_cons, List.foldl_cons, ih]
      have : UInt8.ofNat (u8i c).toNat = c := by unfold u8i; simp
      rw [this]
      have : bs (r.push c) = bs r ++ [c] := by show (r.data.push c).toList = _; simp [bs]
      rw [this, List.append_assoc]; rfl
  exact this l ByteArray.empty
theorem arr_map (a : Arr 64 Int) : (List.range 64).map a.g = a.l := by
  apply List.ext_getElem?
  intro j
  rw [List.getElem?_map]
  have := a.h
  by_cases hj : j < 64
  · rw [List.getElem?_range hj]; show some (a.l[j]?.getD default) = _; rw [List.getElem?_eq_getElem (by omega)]; rfl
  · rw [List.getElem?_eq_none (by simpa using hj), List.getElem?_eq_none (by omega)]; rfl
theorem digits_eq {b M : Nat} {p2 : Int} (hb : 2 ≤ b) (hb2 : b ≤ 16) (hM : (if 1 > p2 then 1 else p2) = (M : Int)) (hM2 : M ≤ 64) {n : Nat} (hn : n < 18446744073709551616) : word_digits (n : Int) (b : Int) p2 = some (mkB (dg b 64 n M [])) := by
  obtain ⟨j, ar', h1, h2, h3⟩ := digits_L1 hb hb2 hM hM2 64 n (arrR 64 0) [] (Nat.le_refl _) hn (by unfold arrR; simp)
  have h1 : loopO (fun (x : (Int × Int × (Arr 64 Int))) => word_digits_L1 p2 (b : Int) x.1 x.2.1 x.2.2) ((n : Int), 64, (arrR 64 0 : Arr 64 Int)) = _ := h1
  unfold word_digits
  rw [h1, bind1_some]
  unfold tup2
  dsimp only
  rw [arr_map]
  have hl := ar'.h
  have : cut ar'.l (j : Int) 64 = some (ar'.l.drop j) := by
    unfold cut
    rw [if_pos ⟨by omega, by omega, by omega⟩, show (64 : Int).toNat = 64 from rfl, List.take_of_length_le (by omega), Int.toNat_natCast]
  rw [this, bind1_some, h3, sOf_u8, Nat.add_sub_cancel]
theorem natD_len (m : Nat) (h : m < 18446744073709551616) : (natD m).length ≤ 20 := by
  have h2 : m / 10 < 10 ^ 19 := by omega
  by_cases h10 : m < 10
  · rw [natD_lo h10]; simp
  · obtain ⟨_, _, h3, _⟩ := natD_spec 19 (m / 10) h2 (by decide) (by decide)
    rw [natD_hi (by omega) h]; simp; omega
theorem word_Text_eq {n : Int} (h1 : -9223372036854775808 < n) (h2 : n ≤ 9223372036854775807) : word_Text n = some (mkB (decS n)) := by
  unfold word_Text decS
  by_cases h : n < 0
  · have e : IntKind.wrap .u64 (IntKind.wrap .i64 (0 - n)) = (((-n).toNat : Nat) : Int) := by rw [wrap_i64 _ (by omega) (by omega), wrap_u64 _ (by omega) (by omega)]; omega
    have hd := digits_eq (b := 10) (M := 1) (p2 := 1) (by decide) (by decide) rfl (by decide) (n := (-n).toNat) (by omega)
    have hd : word_digits (((-n).toNat : Nat) : Int) 10 1 = _ := hd
    have hl := natD_len (-n).toNat (by omega)
    rw [if_pos (by simpa using h), e, hd, bind1_some, if_pos h]
    have hc : sCat { data := #[45] } (mkB (natD (-n).toNat)) = some (mkB (45 :: natD (-n).toNat)) := sCat_some (x := mkB [45]) (by rw [bs_mk, bs_mk]; simp; omega)
    show bind1 (sCat _ (mkB (natD (-n).toNat))) _ = _
    rw [hc]; rfl
  · have e : IntKind.wrap .u64 n = ((n.toNat : Nat) : Int) := by rw [wrap_u64 _ (by omega) (by omega)]; omega
    have hd := digits_eq (b := 10) (M := 1) (p2 := 1) (by decide) (by decide) rfl (by decide) (n := n.toNat) (by omega)
    have hd : word_digits ((n.toNat : Nat) : Int) 10 1 = _ := hd
    rw [if_neg (by simpa using h), e, hd, if_neg h]; rfl
end Go.Proofs.Abs
/- Numbers read: the program and the document. -/
namespace Go.Proofs.Abs
open Go
set_option linter.unusedVariables false
set_option linter.unusedSimpArgs false
def prR (o : Option Int) : Int × Bool := match o with
  | some n => (n, true)
  | none => (0, false)
theorem isD_u8i (c : UInt8) : isD c = !(decide (u8i c < 48) || decide (u8i c > 57)) := by
  unfold isD u8i
  rw [Bool.eq_iff_iff]
  simp; omega
theorem dig_i {c : UInt8} (h : isD c = true) : IntKind.wrap .i64 (IntKind.wrap .u8 (u8i c - 48)) = ((c.toNat - 48 : Nat) : Int) := by
  have : 48 ≤ c.toNat ∧ c.toNat ≤ 57 := of_decide_eq_true h
  have e : u8i c - 48 = ((c.toNat - 48 : Nat) : Int) := by unfold u8i; omega
  rw [e, wrap_u8 ((c.toNat - 48 : Nat) : Int) (by omega) (by omega), wrap_i64 ((c.toNat - 48 : Nat) : Int) (by omega) (by omega)]
/-- a run of digits -/
theorem digs_run (l : Bs) (i n : Nat) : runG (fun (_ : Nat) (n : Nat) (c : UInt8) => if isD c then .inl (n * 10 + (c.toNat - 48)) else .inr (.inr ())) (fun n => (.inl (n : Int) : Int ⊕ Unit)) i n l = if l.all isD then .inl (valF n l : Int) else .inr () := by
  induction l generalizing i n with
  | nil => rfl
  | cons c l ih =>
    rw [runG_cons, List.all_cons]
    cases h : isD c with
    | true => rw [if_pos rfl, Bool.true_and]; exact ih _ _
    | false => rfl
theorem word_L2 (s : ByteArray) (hs : (bs s).length ≤ 10) : loopO (fun (x : (Int × Int)) => word_Parse_L2 s x.1 x.2) (0, 0) = some (if (bs s).all isD then .inl (valS (bs s) : Int) else .inr ()) := by
  have h := loop_all (xs := bs s) (f := fun (x : (Int × Int)) => word_Parse_L2 s x.1 x.2) (fun (n : Nat) i => ((n : Int), (i : Int))) (fun (_ : Nat) (n : Nat) (c : UInt8) => if isD c then .inl (n * 10 + (c.toNat - 48)) else .inr (.inr ())) (fun n => .inl (n : Int)) (fun i n => n < 10 ^ i) 0 (by decide)
    (fun i c n hc hP => by
      have hl := len_of hc
      have hp : 10 ^ i ≤ 10 ^ 10 := Nat.pow_le_pow_right (by decide) (by omega)
      unfold word_Parse_L2
      rw [size_bs, i_lt hc, if_pos rfl, sAt_some hc, bind1_some, wr64 i (by omega)]
      cases hd : isD c with
      | true =>
        have hh := hd
        rw [isD_u8i] at hh
        simp only [Bool.not_eq_true', Bool.or_eq_false_iff] at hh
        rw [if_neg (by rw [hh.1]; decide), bind1_some, bind1_some, if_neg (by rw [hh.2]; decide), bind1_some, dig_i hd]
        have : 48 ≤ c.toNat ∧ c.toNat ≤ 57 := of_decide_eq_true hd
        rw [wrap_i64 ((n : Int) * 10) (by omega) (by omega), wrap_i64 _ (by omega) (by omega)]
        simp
      | false =>
        have hh := hd
        rw [isD_u8i] at hh
        simp only [Bool.not_eq_false'] at hh
        cases h1 : decide (u8i c < 48) with
        | true => rfl
        | false =>
          rw [h1, Bool.false_or] at hh
          rw [if_neg (by decide), bind1_some, bind1_some, hh]; rfl)
    (fun i c n n' hc hP hg => by
      cases hd : isD c with
      | true =>
        rw [hd] at hg; cases hg
        have : 48 ≤ c.toNat ∧ c.toNat ≤ 57 := of_decide_eq_true hd
        show n * 10 + (c.toNat - 48) < 10 ^ (i + 1)
        rw [Nat.pow_succ]; omega
      | false => rw [hd] at hg; cases hg)
    (fun n _ => by unfold word_Parse_L2; rw [size_bs, i_ge, if_neg (by decide)])
  rw [digs_run] at h
  exact h
theorem canon_iff (d : Bs) : canon d = true ↔ d ≠ [] ∧ d.all isD = true ∧ (d.length ≤ 1 ∨ d.head? ≠ some 48) := by
  unfold canon
  simp only [Bool.and_eq_true, Bool.or_eq_true, decide_eq_true_eq, Bool.not_eq_true', beq_eq_false_iff_ne]
  constructor
  · rintro ⟨h1, h2, h3⟩
    exact ⟨fun e => (by subst e; cases h1), h2, h3⟩
  · rintro ⟨h1, h2, h3⟩
    exact ⟨(by cases d; exact absurd rfl h1; rfl), h2, h3⟩
theorem word_j1 (w : Bool) (s : ByteArray) : word_Parse_j1 w s = some (prR (if canon (bs s) ∧ (bs s).length ≤ 10 ∧ (w = true → bs s ≠ [48]) ∧ valS (bs s) ≤ (if w then 2147483648 else 2147483647) then some (if w then -(valS (bs s) : Int) else (valS (bs s) : Int)) else none)) := by
  unfold word_Parse_j1
  rw [strEq_nil]
  have e48 : strEq s { data := #[48] } = decide (bs s = [48]) := strEq_mk s [48]
  rw [e48, size_bs]
  by_cases h0 : bs s = []
  · rw [decide_eq_true h0, if_pos rfl, bind2_some, if_pos rfl, if_neg]; rfl
    rw [h0]; rintro ⟨h, _⟩; cases h
  · rw [decide_eq_false h0, if_neg (by decide)]
    by_cases h10 : (bs s).length ≤ 10
    · rw [if_neg (by simp; omega)]
      have tail : ∀ (bad : Bool), (bad = true ↔ ((1 < (bs s).length ∧ (bs s).head? = some 48) ∨ (w = true ∧ bs s = [48]))) →
          (if bad = true then some ((0 : Int), false) else (bind1 (loopO (fun (x : (Int × Int)) => word_Parse_L2 s x.1 x.2) (0, 0)) (sum2 (fun b23 =>
            if w = true then (word_Parse_j3 (IntKind.wrap .i64 (0 - b23))) else (word_Parse_j3 b23)) (fun (_ : Unit) => some (0, false))))) = some (prR (if canon (bs s) ∧ (bs s).length ≤ 10 ∧ (w = true → bs s ≠ [48]) ∧ valS (bs s) ≤ (if w then 2147483648 else 2147483647) then some (if w then -(valS (bs s) : Int) else (valS (bs s) : Int)) else none)) := by
        intro bad hbad
        cases hb : bad with
        | true =>
          rw [if_pos rfl, if_neg]; rfl
          rintro ⟨h1, h2, h3, _⟩
          rcases hbad.1 hb with ⟨g1, g2⟩ | ⟨g1, g2⟩
          · rcases ((canon_iff _).1 h1).2.2 with h | h
            · omega
            · exact h g2
          · exact h3 g1 g2
        | false =>
          have hnb : ¬ ((1 < (bs s).length ∧ (bs s).head? = some 48) ∨ (w = true ∧ bs s = [48])) := fun h => by rw [hbad.2 h] at hb; cases hb
          rw [if_neg (by decide), word_L2 s h10, bind1_some]
          cases hd : (bs s).all isD with
          | false =>
            rw [if_neg (by decide), if_neg]; rfl
            rintro ⟨h1, _⟩
            rw [((canon_iff _).1 h1).2.1] at hd; cases hd
          | true =>
            have hc : canon (bs s) = true := (canon_iff _).2 ⟨h0, hd, by
              by_cases h : (bs s).length ≤ 1
              · exact .inl h
              · exact .inr fun e => hnb (.inl ⟨by omega, e⟩)⟩
            have hv := valS_lt hd
            have hp : 10 ^ (bs s).length ≤ 10 ^ 10 := Nat.pow_le_pow_right (by decide) h10
            rw [if_pos rfl]
            show (if w = true then word_Parse_j3 (IntKind.wrap .i64 (0 - (valS (bs s) : Int))) else word_Parse_j3 (valS (bs s) : Int)) = _
            unfold word_Parse_j3
            cases w with
            | true =>
              rw [if_pos rfl, wrap_i64 _ (by omega) (by omega)]
              by_cases hr : valS (bs s) ≤ 2147483648
              · rw [if_neg (by simp; omega), if_pos ⟨hc, h10, fun _ e => hnb (.inr ⟨rfl, e⟩), hr⟩, wrap_i32 _ (by omega) (by omega)]
                show some ((0 : Int) - _, true) = some (-_, true)
                rw [Int.zero_sub]
              · rw [if_pos (by simp; omega), if_neg (fun h => hr h.2.2.2)]; rfl
            | false =>
              rw [if_neg (by decide)]
              by_cases hr : valS (bs s) ≤ 2147483647
              · rw [if_neg (by simp; omega), if_pos ⟨hc, h10, fun h => (by cases h), hr⟩, wrap_i32 _ (by omega) (by omega)]; rfl
              · rw [if_pos (by simp; omega), if_neg (fun h => hr h.2.2.2)]; rfl
      by_cases h1 : 1 < (bs s).length
      · obtain ⟨c, hc⟩ : ∃ c, (bs s)[0]? = some c := ⟨_, List.getElem?_eq_getElem (by omega)⟩
        have hh : (bs s).head? = some c := by rw [List.head?_eq_getElem?]; exact hc
        have hs0 : sAt s 0 = some (u8i c) := sAt_some hc
        have hn48 : bs s ≠ [48] := fun e => by rw [e] at h1; simp at h1
        rw [if_pos (by simp; omega), hs0, bind1_some]
        by_cases e : c = 48
        · have := tail true (by simp; exact .inl ⟨h1, by rw [hh, e]⟩)
          rw [e, if_pos (by rfl), bind2_some]
          exact this
        · have := tail false (by simp; exact ⟨fun _ => by rw [hh]; simpa using e, fun _ => hn48⟩)
          rw [if_neg (by rw [beq_iff_eq]; exact fun h => e (u8i_inj h))]
          cases w with
          | true => rw [if_pos rfl, bind2_some, decide_eq_false hn48]; exact this
          | false => rw [if_neg (by decide), bind2_some]; exact this
      · rw [if_neg (by simp; omega)]
        cases w with
        | true =>
          rw [if_pos rfl, bind2_some]
          exact tail (decide (bs s = [48])) (by simp; exact fun h => absurd h h1)
        | false =>
          rw [if_neg (by decide), bind2_some]
          exact tail false (by simp; exact fun h => absurd h h1)
    · rw [if_pos (by simp; omega), bind2_some, if_pos rfl, if_neg (fun h => h10 h.2.1)]; rfl
theorem word_Parse_eq (s : ByteArray) (hs : s.size < 4294967281) : word_Parse s = some (prR (parseS (bs s))) := by
  unfold word_Parse parseS
  rw [size_bs] at hs ⊢
  cases h : bs s with
  | nil =>
    rw [if_neg (by simp), bind1_some, if_neg (by decide), word_j1, h]
    rfl
  | cons c r =>
    have hs0 : sAt s 0 = some (u8i c) := sAt_some (i := 0) (by rw [h]; rfl)
    rw [if_pos (by simp), hs0, bind1_some, bind1_some]
    by_cases e : c = 45
    · subst e
      have hc : sCut s 1 (((45 :: r : Bs).length : Nat) : Int) = some (mkB r) := by
        have := sCut_all s (lo := 1) (by rw [h]; simp)
        rw [size_bs, h] at this
        exact this
      rw [if_pos (by rfl), hc, bind1_some, word_j1, bs_mk, if_pos (show (45 :: r : Bs).head? = some 45 from rfl), List.tail_cons]
      have e1 : (u8i 45 == 45) = true := rfl
      rw [e1]
      simp only [if_true, true_imp_iff]
    · have e1 : (u8i c == 45) = false := by rw [beq_eq_false_iff_ne]; exact fun h => e (u8i_inj h)
      have hne : ¬ (c :: r : Bs).head? = some 45 := by simpa using e
      rw [e1, if_neg (by decide), word_j1, h, if_neg hne]
      simp only [Bool.false_eq_true, if_false, false_imp_iff, true_and]
end Go.Proofs.Abs
/- Numbers read by the document; words of eight digits; registers. -/
namespace Go.Proofs.Abs
open Go
set_option linter.unusedVariables false
set_option linter.unusedSimpArgs false
/-! words of eight digits -/
def hexD (c : UInt8) : Option Nat := if 48 ≤ c.toNat ∧ c.toNat ≤ 57 then some (c.toNat - 48) else if 97 ≤ c.toNat ∧ c.toNat ≤ 102 then some (c.toNat - 87) else none
def hexG (_ : Nat) (w : Nat) (c : UInt8) : Nat ⊕ (Int ⊕ Unit) := match hexD c with
  | some d => .inl (w * 16 + d)
  | none => .inr (.inr ())
def hexS (l : Bs) : Option Int := if l.length = 8 then (match runG hexG (fun w => .inl (w : Int)) 0 0 l with | .inl w => some w | .inr () => none) else none
theorem hexD_lt {c : UInt8} {d : Nat} (h : hexD c = some d) : d < 16 := by
  unfold hexD at h
  split at h
  · cases h; omega
  · split at h
    · cases h; omega
    · cases h
theorem hexG_P {i w w' : Nat} {c : UInt8} (hP : w < 16 ^ i) (hg : hexG i w c = .inl w') : w' < 16 ^ (i + 1) := by
  unfold hexG at hg
  split at hg
  · rename_i d hd; cases hg
    have := hexD_lt hd
    rw [Nat.pow_succ]; omega
  · cases hg
theorem word_ParseHex_eq (s : ByteArray) : word_ParseHex s = some (prR (hexS (bs s))) := by
  unfold word_ParseHex hexS
  rw [size_bs]
  by_cases h8 : (bs s).length = 8
  · rw [if_neg (by simp; omega), if_pos h8]
    have h := loop_all (xs := bs s) (f := fun (x : (Int × Int)) => word_ParseHex_L1 s x.1 x.2) (fun (n : Nat) i => ((n : Int), (i : Int))) hexG (fun n => .inl (n : Int)) (fun i n => n < 16 ^ i) 0 (by decide)
      (fun i c n hc hP => by
        have hl := len_of hc
        have hp : 16 ^ i ≤ 16 ^ 7 := Nat.pow_le_pow_right (by decide) (by omega)
        have hor : ∀ d : Nat, d < 16 → bitsOf .or .u32 (IntKind.wrap .u32 ((n : Int) * 2 ^ 4)) ((d : Nat) : Int) = ((n * 16 + d : Nat) : Int) := fun d hd => by
          rw [wrap_u32 _ (by omega) (by omega), or_part 4 (n : Int) (d : Int) (by omega) (by omega) (by omega) (by omega)]; omega
        unfold word_ParseHex_L1 word_ParseHex_j2 hexG hexD
        rw [size_bs, i_lt hc, if_pos rfl, sAt_some hc, bind1_some, wr64 i (by omega)]
        by_cases h1 : 48 ≤ c.toNat ∧ c.toNat ≤ 57
        · have e : u8i c - 48 = ((c.toNat - 48 : Nat) : Int) := by unfold u8i; omega
          rw [if_pos (by unfold u8i; simp; omega), if_pos h1, e, wrap_u8 ((c.toNat - 48 : Nat) : Int) (by omega) (by omega), wrap_u32 ((c.toNat - 48 : Nat) : Int) (by omega) (by omega), hor _ (by omega)]
        · rw [if_neg (by unfold u8i; simp; omega), if_neg h1]
          by_cases h2 : 97 ≤ c.toNat ∧ c.toNat ≤ 102
          · have e : u8i c - 97 = ((c.toNat - 97 : Nat) : Int) := by unfold u8i; omega
            have e2 : ((c.toNat - 97 : Nat) : Int) + 10 = ((c.toNat - 87 : Nat) : Int) := by omega
            rw [if_pos (by unfold u8i; simp; omega), if_pos h2, e, wrap_u8 ((c.toNat - 97 : Nat) : Int) (by omega) (by omega), e2, wrap_u8 ((c.toNat - 87 : Nat) : Int) (by omega) (by omega), wrap_u32 ((c.toNat - 87 : Nat) : Int) (by omega) (by omega), hor _ (by omega)]
          · rw [if_neg (by unfold u8i; simp; omega), if_neg h2])
      (fun i c n n' hc hP hg => hexG_P hP hg)
      (fun n _ => by unfold word_ParseHex_L1; rw [size_bs, i_ge, if_neg (by decide)])
    have h : loopO (fun (x : (Int × Int)) => word_ParseHex_L1 s x.1 x.2) (0, 0) = _ := h
    rw [h, bind1_some]
    cases runG hexG (fun w => .inl (w : Int)) 0 0 (bs s) with
    | inl w => rfl
    | inr u => rfl
  · rw [if_pos (by simp; omega), if_neg h8]; rfl
def hexL : Bs := [48, 49, 50, 51, 52, 53, 54, 55, 56, 57, 97, 98, 99, 100, 101, 102]
def lookG (c : UInt8) (i : Nat) (d : Int) (x : UInt8) : Int ⊕ Int := if x = c then .inl ((i : Nat) : Int) else .inl d
end Go.Proofs.Abs
/- Which instructions may be; their words. -/
namespace Go.Proofs.Abs
open Go
set_option linter.unusedVariables false
set_option linter.unusedSimpArgs false
/-- the shape of an operation -/
def shS (op : Int) : Int := ([-1, 0, 1, 2, 4, 3, 5, 5, 5, 5, 5, 5, 5, 5, 5, 5, 5, 5, 3, 3, 1, 1, 7, 7, 6, 6, 4, 6, 8, 6, 2, 6, 6, 2, 4] : List Int).getD op.toNat (-1)
theorem shape_all : ((List.range 35).all fun n => decide (instr_Shape (n : Int) = some (shS (n : Int))) && decide (ref02_Shape (n : Int) = some (shS (n : Int)))) = true := by kernel_rfl
theorem shS_all : ((List.range 35).all fun n => decide (n = 0 ∨ 0 ≤ shS (n : Int) ∧ shS (n : Int) ≤ 8)) = true := by kernel_rfl
theorem shape_eq {op : Int} (h0 : 0 ≤ op) (h1 : op ≤ 34) : instr_Shape op = some (shS op) ∧ ref02_Shape op = some (shS op) := by
  have := List.all_eq_true.1 shape_all op.toNat (List.mem_range.2 (by omega))
  rw [Int.toNat_of_nonneg h0, Bool.and_eq_true] at this
  exact ⟨of_decide_eq_true this.1, of_decide_eq_true this.2⟩
theorem shS_r {op : Int} (h0 : 1 ≤ op) (h1 : op ≤ 34) : 0 ≤ shS op ∧ shS op ≤ 8 := by
  have := of_decide_eq_true (List.all_eq_true.1 shS_all op.toNat (List.mem_range.2 (by omega)))
  rw [Int.toNat_of_nonneg (by omega)] at this
  rcases this with h | h
  · omega
  · exact h
def imP (sh n : Int) : Prop := (sh = 1 ∨ sh = 3) ∧ -32768 ≤ n ∧ n < 32768 ∨ (sh = 2 ∨ sh = 4 ∨ sh = 8) ∧ 0 ≤ n ∧ n < 65536 ∨ sh = 7 ∧ -8388608 ≤ n ∧ n < 8388608 ∨ (sh = 0 ∨ sh = 5 ∨ sh = 6) ∧ n = 0
def ckP (sh a b c : Int) : Prop := (sh = 0 ∨ sh = 7 ∨ sh = 8) ∧ a = 0 ∧ b = 0 ∧ c = 0 ∨ (sh = 1 ∨ sh = 2 ∨ sh = 6) ∧ b = 0 ∧ c = 0 ∨ (sh = 3 ∨ sh = 4) ∧ c = 0 ∨ sh = 5
def okI (sh a b c n : Int) : Prop := (0 ≤ a ∧ a < 16) ∧ (0 ≤ b ∧ b < 16) ∧ (0 ≤ c ∧ c < 16) ∧ imP sh n ∧ ckP sh a b c
instance (sh n : Int) : Decidable (imP sh n) := by unfold imP; infer_instance
instance (sh a b c : Int) : Decidable (ckP sh a b c) := by unfold ckP; infer_instance
instance (sh a b c n : Int) : Decidable (okI sh a b c n) := by unfold okI; infer_instance
theorem fitsN {n : Int} (k : Int) (p : Int) (hk : k = 16 ∧ p = 32768 ∨ k = 24 ∧ p = 8388608) : word_Fits n k = some (decide (-p ≤ n ∧ n < p)) := by
  rcases hk with ⟨rfl, rfl⟩ | ⟨rfl, rfl⟩
  all_goals
    unfold word_Fits
    rw [if_neg (by decide)]
  · have s1 : shlI .i64 (-1) (IntKind.wrap .i64 ((if (40 : Int) < 16 then (40 : Int) else 16) - 1)) = some (-32768) := by kernel_rfl
    have s2 : shlI .i64 1 (IntKind.wrap .i64 ((if (40 : Int) < 16 then (40 : Int) else 16) - 1)) = some 32768 := by kernel_rfl
    rw [s1, bind1_some, s2]
    by_cases c : n ≥ -32768
    · rw [if_pos (by simpa using c), bind1_some, bind1_some]
      by_cases d : n < 32768
      · rw [decide_eq_true d, decide_eq_true ⟨c, d⟩]
      · rw [decide_eq_false d, decide_eq_false (fun h => d h.2)]
    · rw [if_neg (by simpa using c), bind1_some, decide_eq_false (fun h => c h.1)]
  · have s1 : shlI .i64 (-1) (IntKind.wrap .i64 ((if (40 : Int) < 24 then (40 : Int) else 24) - 1)) = some (-8388608) := by kernel_rfl
    have s2 : shlI .i64 1 (IntKind.wrap .i64 ((if (40 : Int) < 24 then (40 : Int) else 24) - 1)) = some 8388608 := by kernel_rfl
    rw [s1, bind1_some, s2]
    by_cases c : n ≥ -8388608
    · rw [if_pos (by simpa using c), bind1_some, bind1_some]
      by_cases d : n < 8388608
      · rw [decide_eq_true d, decide_eq_true ⟨c, d⟩]
      · rw [decide_eq_false d, decide_eq_false (fun h => d h.2)]
    · rw [if_neg (by simpa using c), bind1_some, decide_eq_false (fun h => c h.1)]
theorem within16 {n : Int} : word_Within n 16 = some (decide (0 ≤ n ∧ n < 65536)) := by
  unfold word_Within
  have s2 : shlI .i64 1 (if (40 : Int) < 16 then (40 : Int) else 16) = some 65536 := by kernel_rfl
  rw [if_pos (by decide)]
  by_cases c : n ≥ 0
  · rw [if_pos (by simpa using c), s2, bind1_some, bind1_some]
    by_cases d : n < 65536
    · rw [decide_eq_true d, decide_eq_true ⟨c, d⟩]
    · rw [decide_eq_false d, decide_eq_false (fun h => d h.2)]
  · rw [if_neg (by simpa using c), bind1_some, decide_eq_false (fun h => c h.1)]
theorem sh9 {sh : Int} (h0 : 0 ≤ sh) (h1 : sh ≤ 8) : sh = 0 ∨ sh = 1 ∨ sh = 2 ∨ sh = 3 ∨ sh = 4 ∨ sh = 5 ∨ sh = 6 ∨ sh = 7 ∨ sh = 8 := by omega
theorem imm_eq {op a b c n sh : Int} (h0 : 0 ≤ sh) (h1 : sh ≤ 8) : instr_imm ⟨op, a, b, c, n⟩ sh = some (decide (imP sh n)) := by
  unfold instr_imm instr_imm_j1 instr_imm_j2 imP
  have f16 := fitsN (n := n) 16 32768 (.inl ⟨rfl, rfl⟩)
  have f24 := fitsN (n := n) 24 8388608 (.inr ⟨rfl, rfl⟩)
  rcases sh9 h0 h1 with rfl | rfl | rfl | rfl | rfl | rfl | rfl | rfl | rfl <;> simp [f16, f24, within16, bind1_some] <;> rw [Bool.eq_iff_iff] <;> simp
theorem reg_eq (a : Int) : instr_reg a = some (decide (0 ≤ a ∧ a < 16)) := by
  unfold instr_reg
  congr 1
  rw [Bool.eq_iff_iff]; simp
theorem instr_Check_eq {op a b c n sh : Int} (hs : instr_Shape op = some sh) (h0 : 0 ≤ sh) (h1 : sh ≤ 8) : instr_Check ⟨op, a, b, c, n⟩ = some (if okI sh a b c n then 0 else 20) := by
  unfold instr_Check
  dsimp only
  rw [hs, bind1_some, if_neg (by simp; omega), reg_eq, reg_eq, reg_eq, imm_eq h0 h1, bind1_some]
  by_cases ha : 0 ≤ a ∧ a < 16
  · rw [decide_eq_true ha, if_neg (by decide), bind1_some]
    by_cases hb : 0 ≤ b ∧ b < 16
    · rw [decide_eq_true hb, if_neg (by decide), bind1_some]
      by_cases hc : 0 ≤ c ∧ c < 16
      · rw [decide_eq_true hc, if_neg (by decide), bind1_some]
        by_cases hn : imP sh n
        · rw [decide_eq_true hn, bind1_some, if_neg (by decide)]
          have e : okI sh a b c n ↔ ckP sh a b c := ⟨fun h => h.2.2.2.2, fun h => ⟨ha, hb, hc, hn, h⟩⟩
          have e2 : (if okI sh a b c n then (0 : Int) else 20) = if ckP sh a b c then 0 else 20 := by
            by_cases h : ckP sh a b c
            · rw [if_pos h, if_pos (e.2 h)]
            · rw [if_neg h, if_neg (fun h2 => h (e.1 h2))]
          rw [e2]
          unfold instr_Check_j1 instr_Check_j3 instr_Check_j2 ckP
          rcases sh9 h0 h1 with rfl | rfl | rfl | rfl | rfl | rfl | rfl | rfl | rfl <;> simp <;> grind
        · rw [decide_eq_false hn, bind1_some, if_pos (by decide), if_neg (fun h => hn h.2.2.2.1)]
      · rw [decide_eq_false hc, if_pos (by decide), bind1_some, if_pos rfl, if_neg (fun h => hc h.2.2.1)]
    · rw [decide_eq_false hb, if_pos (by decide), bind1_some, if_pos rfl, if_neg (fun h => hb h.2.1)]
  · rw [decide_eq_false ha, if_pos (by decide), bind1_some, if_pos rfl, if_neg (fun h => ha h.1)]
def woP (sh op a b c n : Int) : Int := if sh = 7 then op * 16777216 + n % 16777216 else op * 16777216 + a * 1048576 + b * 65536 + n % 65536 + c
theorem or_far {op n : Int} (h0 : 0 ≤ op) (h1 : op < 128) : bitsOf .or .u32 (IntKind.wrap .u32 (IntKind.wrap .u32 op * 2 ^ 24)) (bitsOf .and .u32 (IntKind.wrap .u32 n) 16777215) = op * 16777216 + n % 16777216 := by
  rw [wrap_u32 op h0 (by omega), wrap_u32 (op * 2 ^ 24) (by omega) (by omega), and_24 _ (by rw [wrap_mod]; omega) (by rw [wrap_mod]; omega), wrap_mod, or_part 24 op _ h0 (by omega) (by omega) (by omega)]
  omega
theorem cn0 {sh a b c n : Int} (h : okI sh a b c n) : n = 0 ∨ c = 0 := by
  obtain ⟨_, _, _, h1, h2⟩ := h
  unfold imP at h1; unfold ckP at h2
  omega
theorem penc {op a b c n sh : Int} (hs : instr_Shape op = some sh) (s0 : 0 ≤ sh) (s1 : sh ≤ 8) (h0 : 0 ≤ op) (h1 : op < 128) (h : okI sh a b c n) : instr_Encode ⟨op, a, b, c, n⟩ = some (woP sh op a b c n, 0) := by
  unfold instr_Encode
  rw [instr_Check_eq hs s0 s1, bind1_some, if_pos h, if_neg (by decide), hs, bind1_some]
  unfold woP
  by_cases s7 : sh = 7
  · rw [if_pos (by simpa using s7), if_pos s7, or_far h0 h1]
  · rw [if_neg (by simpa using s7), if_neg s7, word_of op a b n c h0 h1 h.1.1 h.1.2 h.2.1.1 h.2.1.2 h.2.2.1.1 h.2.2.1.2 (cn0 h)]
/-! registers -/
def regS (l : Bs) : Option Int := if l.head? = some 114 then parseS l.tail else none
theorem parse_r {l : Bs} {n : Int} (h : parseS l = some n) : -2147483648 ≤ n ∧ n ≤ 2147483647 := (parse_iff.1 h).2
theorem register_eq (s : ByteArray) (hs : s.size < 4294967281) : ∃ v, instr_register s = some (v, match regS (bs s) with | some n => decide (0 ≤ n ∧ n < 16) | none => false) ∧ ∀ n, regS (bs s) = some n → v = n := by
  unfold instr_register regS
  rw [size_bs] at hs ⊢
  cases h : bs s with
  | nil => exact ⟨0, rfl, fun n hn => by cases hn⟩
  | cons c r =>
    have hs0 : sAt s 0 = some (u8i c) := sAt_some (i := 0) (by rw [h]; rfl)
    by_cases hr : r = []
    · subst hr
      rw [if_pos (by simp), bind1_some, if_pos rfl]
      refine ⟨0, ?_, fun n hn => ?_⟩
      · split
        · rename_i q hq
          split at hq
          · exact absurd hq (by rw [show parseS (List.tail [c]) = none from rfl]; simp)
          · cases hq
        · rfl
      · split at hn
        · exact absurd hn (by rw [show parseS (List.tail [c]) = none from rfl]; simp)
        · cases hn
    · have hl : 0 < r.length := List.length_pos_iff.2 hr
      rw [if_neg (by simp; omega), hs0, bind1_some, bind1_some]
      by_cases e : c = 114
      · subst e
        have hc : sCut s 1 (((114 :: r : Bs).length : Nat) : Int) = some (mkB r) := by
          have := sCut_all s (lo := 1) (by rw [h]; simp)
          rw [size_bs, h] at this
          exact this
        rw [if_neg (by decide), hc, bind1_some, word_Parse_eq _ (by rw [size_mk]; rw [h, List.length_cons] at hs; omega), bs_mk, if_pos (show (114 :: r : Bs).head? = some 114 from rfl), List.tail_cons]
        cases hq : parseS r with
        | none => exact ⟨_, rfl, fun n hn => by cases hn⟩
        | some n =>
          have := parse_r hq
          refine ⟨n, ?_, fun m hm => by cases hm; rfl⟩
          show some (IntKind.wrap .i64 n, (true && (decide (n ≥ 0) && decide (n < 16)))) = _
          rw [wrap_i64 _ (by omega) (by omega), Bool.true_and]
          congr 2
          rw [Bool.eq_iff_iff]; simp
      · have e1 : (u8i c != 114) = true := by simp; exact fun h => e (u8i_inj h)
        have hne : ¬ (c :: r : Bs).head? = some 114 := by simpa using e
        rw [e1, if_pos rfl, if_neg hne]
        exact ⟨0, rfl, fun n hn => by cases hn⟩
end Go.Proofs.Abs
/- The instruction of an operation and texts: the program and the document. -/
namespace Go.Proofs.Abs
open Go
set_option linter.unusedVariables false
set_option linter.unusedSimpArgs false
/-- where the texts' numbers go: the places of A, B, C, the number -/
def plS (sh : Int) : List Nat := ([[], [1, 4], [1, 4], [1, 2, 4], [1, 2, 4], [1, 2, 3], [1], [4], [4]] : List (List Nat)).getD sh.toNat []
def fset (x : T_instr_Instr) (k : Nat) (v : Int) : T_instr_Instr := if k = 1 then { x with A_ := v } else if k = 2 then { x with B_ := v } else if k = 3 then { x with C_ := v } else { x with Imm_ := v }
/-- what a text stands for at a place -/
def valP (op : Int) (k : Nat) (f : Bs) : Option Int := if k = 4 ∨ op = 26 ∧ k = 2 then parseS f else regS f
def filP (op : Int) : List Nat → List Bs → T_instr_Instr → Option T_instr_Instr
  | [], [], x => some x
  | k :: ks, f :: fs, x => (valP op k f).bind fun v => filP op ks fs (fset x k v)
  | _, _, _ => none
def okX (x : T_instr_Instr) : Prop := okI (shS x.Op_) x.A_ x.B_ x.C_ x.Imm_
instance (x : T_instr_Instr) : Decidable (okX x) := by unfold okX; infer_instance
def fillS (op : Int) (fs : List Bs) : Option T_instr_Instr := (filP op (plS (shS op)) fs ⟨op, 0, 0, 0, 0⟩).bind fun x => if okX x then some x else none
theorem oI_inj : ∀ (x y : T_instr_Instr), o_instr_Instr x = o_instr_Instr y → x = y := by
  intro x y h
  unfold o_instr_Instr at h
  cases x; cases y
  simp at h; simp [h]
theorem oI_len (x : T_instr_Instr) : (o_instr_Instr x).length = 5 := rfl
theorem gI (x : T_instr_Instr) : get_instr_Instr [o_instr_Instr x] 0 0 = some x := hgT_new (en := o_instr_Instr) (n := 5) oI_inj oI_len [] x
theorem o3_inj : ∀ (x y : Int), o_p3 x = o_p3 y → x = y := by
  intro x y h
  unfold o_p3 at h
  simpa using h
def fget (x : T_instr_Instr) (k : Nat) : Int := if k = 1 then x.A_ else if k = 2 then x.B_ else if k = 3 then x.C_ else x.Imm_
theorem g3 (x : T_instr_Instr) {k : Nat} (h1 : 1 ≤ k) (h4 : k ≤ 4) : get_p3 [o_instr_Instr x] 0 k = some (fget x k) := by
  refine hgetT_of o3_inj ?_
  have : k = 1 ∨ k = 2 ∨ k = 3 ∨ k = 4 := by omega
  rcases this with rfl | rfl | rfl | rfl <;> rfl
theorem s3 (x : T_instr_Instr) (v : Int) {k : Nat} (h1 : 1 ≤ k) (h4 : k ≤ 4) : set_p3 [o_instr_Instr x] 0 k v = [o_instr_Instr (fset x k v)] := by
  have : k = 1 ∨ k = 2 ∨ k = 3 ∨ k = 4 := by omega
  rcases this with rfl | rfl | rfl | rfl <;> rfl
theorem fset_fset (x : T_instr_Instr) (k : Nat) (v w : Int) : fset (fset x k v) k w = fset x k w := by
  unfold fset
  split
  · rfl
  · split
    · rfl
    · split <;> rfl
theorem fset_op (x : T_instr_Instr) (k : Nat) (v : Int) : (fset x k v).Op_ = x.Op_ := by
  unfold fset
  split
  · rfl
  · split
    · rfl
    · split <;> rfl
theorem filP_op (op : Int) : ∀ (ks : List Nat) (fs : List Bs) (x y : T_instr_Instr), filP op ks fs x = some y → y.Op_ = x.Op_
  | [], [], x, y, h => by cases h; rfl
  | k :: ks, f :: fs, x, y, h => by
    unfold filP at h
    cases hv : valP op k f with
    | none => rw [hv] at h; cases h
    | some v => rw [hv] at h; exact (filP_op op ks fs _ y h).trans (fset_op x k v)
  | [], _ :: _, _, _, h => by cases h
  | _ :: _, [], _, _, h => by cases h
/-- an instruction that can't be any more: a register that is too great -/
def badR (x : T_instr_Instr) : Prop := ¬ (0 ≤ x.A_ ∧ x.A_ < 16) ∨ ¬ (0 ≤ x.B_ ∧ x.B_ < 16) ∨ ¬ (0 ≤ x.C_ ∧ x.C_ < 16)
theorem badR_ok {x : T_instr_Instr} (h : badR x) : ¬ okX x := fun o => by
  rcases h with h | h | h
  · exact h o.1
  · exact h o.2.1
  · exact h o.2.2.1
theorem fset_bad {x : T_instr_Instr} {k : Nat} {v : Int} (h : badR x) (hk : (∀ j, j < k → True) ∧ (k = 1 → 0 ≤ x.A_ ∧ x.A_ < 16) ∧ (k = 2 → 0 ≤ x.B_ ∧ x.B_ < 16) ∧ (k = 3 → 0 ≤ x.C_ ∧ x.C_ < 16)) : badR (fset x k v) := by
  unfold fset badR at *
  split
  · rename_i e; have := hk.2.1 e; dsimp only; omega
  · split
    · rename_i e; have := hk.2.2.1 e; dsimp only; omega
    · split
      · rename_i e; have := hk.2.2.2 e; dsimp only; omega
      · exact h
/-- places that still come: their cells are 0 -/
def clean (ks : List Nat) (x : T_instr_Instr) : Prop := ∀ k ∈ ks, fget x k = 0
theorem fget_fset {x : T_instr_Instr} {j k : Nat} {v : Int} (hj : 1 ≤ j ∧ j ≤ 4) (hk : 1 ≤ k ∧ k ≤ 4) (h : j ≠ k) : fget (fset x k v) j = fget x j := by
  have a : j = 1 ∨ j = 2 ∨ j = 3 ∨ j = 4 := by omega
  have b : k = 1 ∨ k = 2 ∨ k = 3 ∨ k = 4 := by omega
  rcases a with rfl | rfl | rfl | rfl <;> rcases b with rfl | rfl | rfl | rfl <;> first | rfl | exact absurd rfl h
theorem filP_bad (op : Int) : ∀ (ks : List Nat) (fs : List Bs) (x : T_instr_Instr), (∀ k ∈ ks, 1 ≤ k ∧ k ≤ 4) → ks.Nodup → clean ks x → badR x → (filP op ks fs x).bind (fun x => if okX x then some x else none) = none
  | [], [], x, _, _, _, h => if_neg (badR_ok h)
  | k :: ks, f :: fs, x, hk, hn, hc, h => by
    unfold filP
    cases hv : valP op k f with
    | none => rfl
    | some v =>
      rw [Option.bind_some]
      have k0 := hc k (List.mem_cons_self ..)
      obtain ⟨n1, n2⟩ := List.nodup_cons.1 hn
      refine filP_bad op ks fs _ (fun j hj => hk j (List.mem_cons_of_mem _ hj)) n2 (fun j hj => ?_) (fset_bad h ⟨fun _ _ => trivial, fun e => ?_, fun e => ?_, fun e => ?_⟩)
      · rw [fget_fset (hk j (List.mem_cons_of_mem _ hj)) (hk k (List.mem_cons_self ..)) (fun e => n1 (e ▸ hj))]; exact hc j (List.mem_cons_of_mem _ hj)
      · subst e; have k0 : x.A_ = 0 := k0; omega
      · subst e; have k0 : x.B_ = 0 := k0; omega
      · subst e; have k0 : x.C_ = 0 := k0; omega
  | [], _ :: _, _, _, _, _, _ => rfl
  | _ :: _, [], _, _, _, _, _ => rfl
theorem peq_at (i o k : Nat) : peq (.at i o) (.at i k) = some (decide (o = k)) := if_pos rfl
theorem fill_L2 (op : Int) (pls : List Nat) (fs : List Bs) (hf : ∀ f ∈ fs, f.length < 4294967281) (hp : ∀ k ∈ pls, 1 ≤ k ∧ k ≤ 4) (hnd : pls.Nodup) (hl4 : pls.length ≤ 4) (hlen : pls.length = fs.length) :
    ∀ (ks : List Nat) (gs : List Bs) (i : Nat) (x : T_instr_Instr), pls.drop i = ks → fs.drop i = gs → i ≤ pls.length → clean ks x →
      ∃ r, loopO (fun (y : (Int × Heap)) => instr_Fill_L2 (pls.map (Ptr.at 0)) (fs.map mkB) 0 op y.1 y.2) ((i : Int), [o_instr_Instr x]) = some r ∧
        ((∃ y, filP op ks gs x = some y ∧ r = .inl [o_instr_Instr y]) ∨ ((filP op ks gs x).bind (fun x => if okX x then some x else none) = none ∧ ∃ h, r = .inr h))
  | [], gs, i, x, hk, hg, hi, hc => by
    have e1 : i = pls.length := by have := congrArg List.length hk; simp at this; omega
    have e2 : gs = [] := by rw [← hg, List.drop_eq_nil_of_le (by omega)]
    subst e2
    refine ⟨_, loopO_out (r := .inl [o_instr_Instr x]) ?_, .inl ⟨x, rfl, rfl⟩⟩
    unfold instr_Fill_L2
    dsimp only
    rw [List.length_map, if_neg (by rw [e1]; simp)]
  | k :: ks, gs, i, x, hk, hg, hi, hc => by
    have hx : pls[i]? = some k := by have := congrArg (·[0]?) hk; simpa using this
    have hil := len_of hx
    cases gs with
    | nil => have := congrArg List.length hg; simp at this; omega
    | cons f gs =>
      have hy : fs[i]? = some f := by have := congrArg (·[0]?) hg; simpa using this
      have hkd : pls.drop (i + 1) = ks := by rw [← List.drop_drop, hk]; rfl
      have hgd : fs.drop (i + 1) = gs := by rw [← List.drop_drop, hg]; rfl
      have kr := hp k (List.mem_of_getElem? hx)
      have hx' : (pls.map (Ptr.at 0))[i]? = some (.at 0 k) := by rw [List.getElem?_map, hx]; rfl
      have hy' : (fs.map mkB)[i]? = some (mkB f) := by rw [List.getElem?_map, hy]; rfl
      have hfl := hf f (List.mem_of_getElem? hy)
      have nd : k ∉ ks ∧ ks.Nodup := by
        have : (k :: ks).Nodup := by rw [← hk]; exact (List.drop_sublist i pls).nodup hnd
        exact List.nodup_cons.1 this
      have hks : ∀ j ∈ ks, 1 ≤ j ∧ j ≤ 4 := fun j hj => hp j (List.mem_of_mem_drop (hkd ▸ hj))
      have hcl : ∀ v, clean ks (fset x k v) := fun v j hj => by
        rw [fget_fset (hks j hj) kr (fun e => nd.1 (e ▸ hj))]; exact hc j (List.mem_cons_of_mem _ hj)
      have step : ∀ q, instr_Fill_L2 (pls.map (Ptr.at 0)) (fs.map mkB) 0 op (i : Int) [o_instr_Instr x] = some q → ∀ r, (q = .inr r ∧ (∃ h, r = .inr h) ∧ (filP op (k :: ks) (f :: gs) x).bind (fun x => if okX x then some x else none) = none) → ∃ r, loopO (fun (y : (Int × Heap)) => instr_Fill_L2 (pls.map (Ptr.at 0)) (fs.map mkB) 0 op y.1 y.2) ((i : Int), [o_instr_Instr x]) = some r ∧
        ((∃ y, filP op (k :: ks) (f :: gs) x = some y ∧ r = .inl [o_instr_Instr y]) ∨ ((filP op (k :: ks) (f :: gs) x).bind (fun x => if okX x then some x else none) = none ∧ ∃ h, r = .inr h)) := by
        rintro q hq r ⟨rfl, h1, h2⟩
        exact ⟨r, loopO_out hq, .inr ⟨h2, h1⟩⟩
      have more : ∀ v, instr_Fill_L2 (pls.map (Ptr.at 0)) (fs.map mkB) 0 op (i : Int) [o_instr_Instr x] = some (.inl (((i + 1 : Nat) : Int), [o_instr_Instr (fset x k v)])) → valP op k f = some v → ∃ r, loopO (fun (y : (Int × Heap)) => instr_Fill_L2 (pls.map (Ptr.at 0)) (fs.map mkB) 0 op y.1 y.2) ((i : Int), [o_instr_Instr x]) = some r ∧
        ((∃ y, filP op (k :: ks) (f :: gs) x = some y ∧ r = .inl [o_instr_Instr y]) ∨ ((filP op (k :: ks) (f :: gs) x).bind (fun x => if okX x then some x else none) = none ∧ ∃ h, r = .inr h)) := by
        intro v hv hval
        obtain ⟨r, r1, r2⟩ := fill_L2 op pls fs hf hp hnd hl4 hlen ks gs (i + 1) (fset x k v) hkd hgd hil (hcl v)
        refine ⟨r, by rw [loopO_go (s' := (((i + 1 : Nat) : Int), [o_instr_Instr (fset x k v)])) hv]; exact r1, ?_⟩
        show (∃ y, (valP op k f).bind (fun v => filP op ks gs (fset x k v)) = some y ∧ _) ∨ (((valP op k f).bind (fun v => filP op ks gs (fset x k v))).bind _ = none ∧ _)
        rw [hval, Option.bind_some]
        exact r2
      have hP := word_Parse_eq (mkB f) (by rw [size_mk]; exact hfl)
      rw [bs_mk] at hP
      obtain ⟨rv, hR, hR2⟩ := register_eq (mkB f) (by rw [size_mk]; exact hfl)
      rw [bs_mk] at hR hR2
      unfold instr_Fill_L2 at step more
      rw [i_lt hx', if_pos rfl, gi_nat hx', bind1_some, gi_nat hy', bind1_some, hP] at step more
      obtain ⟨pv, pb, hpr⟩ : ∃ pv pb, prR (parseS f) = (pv, pb) := ⟨_, _, rfl⟩
      have hpv : -2147483648 ≤ pv ∧ pv ≤ 2147483647 := by
        cases hq : parseS f with
        | none => rw [hq] at hpr; cases hpr; decide
        | some n => rw [hq] at hpr; cases hpr; exact parse_r hq
      rw [hpr, bind2_some, pbnd_at, g3 x kr.1 kr.2, bind1_some, bnd_def, wrap_i64 pv (by omega) (by omega), s3 x pv kr.1 kr.2, gI, bind1_some, peq_at, bind1_some] at step more
      have isR : (bind1 (if (!decide (k = 4)) = true then (if (op == 26) = true then (bind1 (peq (Ptr.at 0 k) (Ptr.at 0 2)) fun b35 => some (!b35)) else (some true)) else (some false)) fun w => some w) = some (!decide (k = 4 ∨ op = 26 ∧ k = 2)) := by
        by_cases k4 : k = 4
        · subst k4; rfl
        · by_cases o : op = 26
          · subst o; rw [peq_at]; simp [k4, bind1_some]
          · simp [k4, o, bind1_some]
      have isR2 : (if (!decide (k = 4)) = true then (if (op == 26) = true then (bind1 (peq (Ptr.at 0 k) (Ptr.at 0 2)) fun b35 => some (!b35)) else (some true)) else (some false)) = some (!decide (k = 4 ∨ op = 26 ∧ k = 2)) := by
        rw [← isR]; cases (if (!decide (k = 4)) = true then (if (op == 26) = true then (bind1 (peq (Ptr.at 0 k) (Ptr.at 0 2)) fun b35 => some (!b35)) else (some true)) else (some false)) <;> rfl
      rw [isR2, bind1_some] at step more
      unfold instr_Fill_j3 at step more
      rw [wr64 i (by omega)] at step more
      by_cases hn : k = 4 ∨ op = 26 ∧ k = 2
      · rw [decide_eq_true hn, if_neg (by decide)] at step more
        have hval : valP op k f = parseS f := if_pos hn
        cases hq : parseS f with
        | none =>
          rw [hq] at hpr; cases hpr
          refine step _ rfl _ ⟨rfl, ⟨_, rfl⟩, ?_⟩
          show ((valP op k f).bind (fun v => filP op ks gs (fset x k v))).bind _ = none
          rw [hval, hq]; rfl
        | some n =>
          rw [hq] at hpr; cases hpr
          exact more _ rfl (by rw [hval, hq])
      · rw [decide_eq_false hn, if_pos (by decide), bind1_some, hR, bind2_some, g3 _ kr.1 kr.2, bind1_some, bnd_def, s3 _ _ kr.1 kr.2, fset_fset] at step more
        have hval : valP op k f = regS f := if_neg hn
        cases hq : regS f with
        | none =>
          rw [hq] at step
          refine step _ rfl _ ⟨rfl, ⟨_, rfl⟩, ?_⟩
          show ((valP op k f).bind (fun v => filP op ks gs (fset x k v))).bind _ = none
          rw [hval, hq]; rfl
        | some n =>
          have e := hR2 n hq
          subst e
          rw [hq] at step more
          by_cases r16 : 0 ≤ rv ∧ rv < 16
          · simp only [decide_eq_true r16] at more
            exact more rv rfl (by rw [hval, hq])
          · simp only [decide_eq_false r16] at step
            refine step _ rfl _ ⟨rfl, ⟨_, rfl⟩, ?_⟩
            show ((valP op k f).bind (fun v => filP op ks gs (fset x k v))).bind _ = none
            rw [hval, hq, Option.bind_some]
            refine filP_bad op ks gs _ hks nd.2 (hcl rv) ?_
            have k4 : k ≠ 4 := fun e => hn (.inl e)
            have : k = 1 ∨ k = 2 ∨ k = 3 := by omega
            rcases this with rfl | rfl | rfl
            · exact .inl r16
            · exact .inr (.inl r16)
            · exact .inr (.inr r16)
end Go.Proofs.Abs
/- The instruction of an operation and texts, by both, is the same. -/
namespace Go.Proofs.Abs
open Go
set_option linter.unusedVariables false
set_option linter.unusedSimpArgs false
theorem filP_len (op : Int) : ∀ (ks : List Nat) (fs : List Bs) (x : T_instr_Instr), ks.length ≠ fs.length → filP op ks fs x = none
  | [], [], x, h => absurd rfl h
  | k :: ks, f :: fs, x, h => by
    unfold filP
    cases valP op k f with
    | none => rfl
    | some v => exact filP_len op ks fs _ (fun e => h (by simp [e]))
  | [], _ :: _, _, _ => rfl
  | _ :: _, [], _, _ => rfl
theorem fill_j1 {op : Int} {pls : List Nat} {fs : List Bs} (ho : 1 ≤ op ∧ op ≤ 34) (hf : ∀ f ∈ fs, f.length < 4294967281) (hp : ∀ k ∈ pls, 1 ≤ k ∧ k ≤ 4) (hnd : pls.Nodup) (hl4 : pls.length ≤ 4) :
    ∃ y, instr_Fill_j1 (fs.map mkB) 0 op [o_instr_Instr ⟨op, 0, 0, 0, 0⟩] (pls.map (Ptr.at 0)) = some (y, ((filP op pls fs ⟨op, 0, 0, 0, 0⟩).bind fun x => if okX x then some x else none).isSome) ∧ ∀ x, ((filP op pls fs ⟨op, 0, 0, 0, 0⟩).bind fun x => if okX x then some x else none) = some x → y = x := by
  unfold instr_Fill_j1
  rw [List.length_map, List.length_map]
  by_cases hlen : pls.length = fs.length
  · rw [if_neg (by simp [hlen])]
    obtain ⟨r, r1, r2⟩ := fill_L2 op pls fs hf hp hnd hl4 hlen pls fs 0 ⟨op, 0, 0, 0, 0⟩ rfl rfl (Nat.zero_le _) (fun k hk => by
      have := hp k hk
      have : k = 1 ∨ k = 2 ∨ k = 3 ∨ k = 4 := by omega
      rcases this with rfl | rfl | rfl | rfl <;> rfl)
    have r1 : loopO (fun (x : (Int × Heap)) => instr_Fill_L2 (pls.map (Ptr.at 0)) (fs.map mkB) 0 op x.1 x.2) (0, [o_instr_Instr ⟨op, 0, 0, 0, 0⟩]) = _ := r1
    rw [r1, bind1_some]
    rcases r2 with ⟨y, h1, rfl⟩ | ⟨h1, h, rfl⟩
    · have hop := filP_op op pls fs _ y h1
      have hop : y.Op_ = op := hop
      obtain ⟨s0, s8⟩ := shS_r (op := y.Op_) (by omega) (by omega)
      have hsh := (shape_eq (op := y.Op_) (by omega) (by omega)).1
      have hc : instr_Check y = some (if okX y then 0 else 20) := instr_Check_eq (op := y.Op_) (a := y.A_) (b := y.B_) (c := y.C_) (n := y.Imm_) hsh s0 s8
      rw [sum2_inl, gI, bind1_some, hc, bind1_some, h1, Option.bind_some]
      refine ⟨y, ?_, fun x hx => ?_⟩
      · by_cases ok : okX y
        · rw [if_pos ok, if_pos ok]; rfl
        · rw [if_neg ok, if_neg ok]; rfl
      · split at hx
        · cases hx; rfl
        · cases hx
    · rw [sum2_inr, h1]
      exact ⟨_, rfl, fun x hx => by cases hx⟩
  · rw [if_pos (by simp; omega), filP_len op pls fs _ hlen]
    exact ⟨_, rfl, fun x hx => by cases hx⟩
theorem plS_ok : ((List.range 9).all fun n => (plS (n : Int)).all (fun k => decide (1 ≤ k ∧ k ≤ 4)) && decide (plS (n : Int)).Nodup && decide ((plS (n : Int)).length ≤ 4)) = true := by kernel_rfl
theorem instr_Fill_eq {op : Int} {fs : List Bs} (ho : 1 ≤ op ∧ op ≤ 34) (hf : ∀ f ∈ fs, f.length < 4294967281) : ∃ y, instr_Fill op (fs.map mkB) = some (y, (fillS op fs).isSome) ∧ ∀ x, fillS op fs = some x → y = x := by
  obtain ⟨s0, s8⟩ := shS_r ho.1 ho.2
  have hp := List.all_eq_true.1 plS_ok (shS op).toNat (List.mem_range.2 (by omega))
  rw [Int.toNat_of_nonneg s0] at hp
  simp only [Bool.and_eq_true, List.all_eq_true, decide_eq_true_eq] at hp
  have key := fill_j1 (op := op) (pls := plS (shS op)) (fs := fs) ho hf hp.1.1 hp.1.2 hp.2
  unfold fillS
  unfold instr_Fill
  have e1 : new_instr_Instr ([] : Heap) (T_instr_Instr.mk 0 0 0 0 0) = [o_instr_Instr ⟨0, 0, 0, 0, 0⟩] := rfl
  have e2 : set_instr_Instr [o_instr_Instr ⟨0, 0, 0, 0, 0⟩] 0 0 ⟨op, 0, 0, 0, 0⟩ = [o_instr_Instr ⟨op, 0, 0, 0, 0⟩] := rfl
  have e0 : ([] : Heap).length = 0 := rfl
  rw [bnd_def, bnd_def, e1, e0, gI, bind1_some, bnd_def, e2, (shape_eq (by omega) ho.2).1, bind1_some]
  unfold instr_Fill_j4 instr_Fill_j5 instr_Fill_j6
  generalize shS op = sh at s0 s8 key
  simp only [gI, bind1_some]
  rcases sh9 s0 s8 with rfl | rfl | rfl | rfl | rfl | rfl | rfl | rfl | rfl <;> exact key
/-! the document -/
def ri (x : T_instr_Instr) : T_ref02_Instr := ⟨x.Op_, x.A_, x.B_, x.C_, x.Imm_⟩
def filV (op : Int) : List Nat → List Bs → Option (List Int)
  | [], [] => some []
  | k :: ks, f :: fs => (valP op k f).bind fun v => (filV op ks fs).map (v :: ·)
  | _, _ => none
def putV : List Nat → List Int → T_instr_Instr → T_instr_Instr
  | k :: ks, v :: vs, x => putV ks vs (fset x k v)
  | _, _, x => x
def hdS (op : Int) (k : Nat) : Bs := if k = 4 ∨ op = 26 ∧ k = 2 then [] else [114]
end Go.Proofs.Abs
/- Rows: their instructions and words, by both. -/
namespace Go.Proofs.Abs
open Go
set_option linter.unusedVariables false
set_option linter.unusedSimpArgs false
def okR (x : T_asm_row) : Prop := 0 ≤ x.op_ ∧ x.op_ ≤ 34 ∧ x.fields_.length ≤ 4294967296 ∧ ∀ f ∈ x.fields_, f.size < 4294967280
theorem okR_fs {x : T_asm_row} (h : okR x) : okFs x.fields_ := ⟨by have := h.2.2.1; omega, fun f hf => by have := h.2.2.2 f hf; omega⟩
def subL (b : Bool) (fs : List Bs) (last : Bs) : List Bs := if b then fs.set (fs.length - 1) last else fs
def nmd (x : T_asm_row) : Bool := !(namedS x.op_ x.fields_).isEmpty
/-- a row's instruction, with a text in its label's place -/
def rowW (x : T_asm_row) (last : Bs) : Option T_instr_Instr := fillS x.op_ (subL (nmd x) (x.fields_.map bs) last)
theorem map_mk_bs (l : List ByteArray) : (l.map bs).map mkB = l := by rw [List.map_map]; exact List.map_id _
theorem nmd_ne {x : T_asm_row} (h : nmd x = true) : x.fields_ ≠ [] := fun e => by
  unfold nmd namedS at h
  rw [e] at h; cases h
theorem strEq_nmd (x : T_asm_row) : (!strEq (mkB (namedS x.op_ x.fields_)) ByteArray.empty) = nmd x := by
  rw [strEq_nil, bs_mk]
  unfold nmd
  cases namedS x.op_ x.fields_ <;> simp
theorem sub_lt {x : T_asm_row} {last : Bs} (h : okR x) (hl : last.length < 4294967281) : ∀ f ∈ subL (nmd x) (x.fields_.map bs) last, f.length < 4294967281 := by
  intro f hf
  unfold subL at hf
  have old : ∀ f ∈ x.fields_.map bs, f.length < 4294967281 := fun f hf => by
    obtain ⟨g, hg, rfl⟩ := List.mem_map.1 hf
    have := h.2.2.2 g hg
    rw [size_bs] at this; omega
  split at hf
  · rcases List.mem_or_eq_of_mem_set hf with h1 | rfl
    · exact old f h1
    · exact hl
  · exact old f hf
theorem asm_with_eq (x : T_asm_row) (last : Bs) (h : okR x) (h1 : 1 ≤ x.op_) (hl : last.length < 4294967281) : ∃ y, asm_row_with x (mkB last) = some (y, (rowW x last).isSome) ∧ ∀ z, rowW x last = some z → y = z := by
  obtain ⟨y, e1, e2⟩ := instr_Fill_eq (op := x.op_) (fs := subL (nmd x) (x.fields_.map bs) last) ⟨h1, h.2.1⟩ (sub_lt h hl)
  refine ⟨y, ?_, e2⟩
  have hlen := h.2.2.1
  unfold asm_row_with
  rw [app_some (by simp; omega), bind1_some, List.nil_append, named_eq x (okR_fs h), bind1_some, strEq_nmd]
  unfold asm_row_with_j1
  unfold rowW at *
  unfold subL at e1 e2 ⊢
  cases hn : nmd x with
  | true =>
    have hpos : 0 < x.fields_.length := List.length_pos_iff.2 (nmd_ne hn)
    have hix : IntKind.wrap .i64 ((x.fields_.length : Int) - 1) = ((x.fields_.length - 1 : Nat) : Int) := by rw [wrap_i64 _ (by omega) (by omega)]; omega
    obtain ⟨q, hq⟩ : ∃ q, x.fields_[x.fields_.length - 1]? = some q := ⟨_, List.getElem?_eq_getElem (by omega)⟩
    rw [hn, if_pos rfl, List.map_set, map_mk_bs, List.length_map] at e1
    rw [if_pos rfl, hix, gi_nat hq, bind1_some, si_some (by omega) (by omega), Int.toNat_natCast, bind1_some, e1, bind2_some, if_pos rfl, List.length_map]
  | false =>
    rw [hn, if_neg (by decide), map_mk_bs] at e1
    rw [if_neg (by decide), e1, bind2_some, if_neg (by decide)]
/-- a row's word, or what is wrong with it -/
def placeS (ls : List T_asm_Label) (k : Nat) (x : T_asm_row) : Int × Int :=
  if x.op_ = 0 then (x.word_, 0) else
    if nmd x = true ∧ atS (namedS x.op_ x.fields_) ls < 0 then (0, 50) else
      match rowW x (if nmd x then decS (atS (namedS x.op_ x.fields_) ls - k - 1) else [48]) with
      | some y => (woP (shS y.Op_) y.Op_ y.A_ y.B_ y.C_ y.Imm_, 0)
      | none => (0, 52)
def okLs (ls : List T_asm_Label) : Prop := ls.length < 4294967296 ∧ ∀ l ∈ ls, 0 ≤ l.At_ ∧ l.At_ ≤ 4294967296
theorem atS_r {ls : List T_asm_Label} (h : ∀ l ∈ ls, 0 ≤ l.At_ ∧ l.At_ ≤ 4294967296) (n : Bs) : -1 ≤ atS n ls ∧ atS n ls ≤ 4294967296 := by
  unfold atS
  have : ∀ (l : List T_asm_Label) (i : Nat), (∀ q ∈ l, 0 ≤ q.At_ ∧ q.At_ ≤ 4294967296) → -1 ≤ findG (fun _ l => if bs l.Name_ = n then some l.At_ else none) (-1) i l ∧ findG (fun _ l => if bs l.Name_ = n then some l.At_ else none) (-1) i l ≤ 4294967296 := by
    intro l
    induction l with
    | nil => intro i _; exact ⟨Int.le_refl _, by show (-1 : Int) ≤ _; decide⟩
    | cons q l ih =>
      intro i hq
      unfold findG
      have := hq q (List.mem_cons_self ..)
      by_cases e : bs q.Name_ = n
      · rw [if_pos e]; dsimp only; omega
      · rw [if_neg e]; exact ih (i + 1) fun z hz => hq z (List.mem_cons_of_mem _ hz)
  exact this ls 0 h
theorem dec_len {n : Int} (h1 : -18446744073709551616 < n) (h2 : n < 18446744073709551616) : (decS n).length ≤ 21 := by
  unfold decS
  split
  · have := natD_len (-n).toNat (by omega); simp; omega
  · have := natD_len n.toNat (by omega); omega
theorem rowW_op {x : T_asm_row} {last : Bs} {y : T_instr_Instr} (h : rowW x last = some y) : y.Op_ = x.op_ ∧ okX y := by
  unfold rowW fillS at h
  cases hq : filP x.op_ (plS (shS x.op_)) (subL (nmd x) (x.fields_.map bs) last) ⟨x.op_, 0, 0, 0, 0⟩ with
  | none => rw [hq] at h; cases h
  | some z =>
    rw [hq, Option.bind_some] at h
    split at h
    · rename_i ok; cases h
      exact ⟨filP_op _ _ _ _ _ hq, ok⟩
    · cases h
theorem asm_place_j1 {x : T_asm_row} {last : Bs} (h : okR x) (h1 : 1 ≤ x.op_) (hl : last.length < 4294967281) : asm_reader_place_j1 x (mkB last) = some (match rowW x last with | some y => (woP (shS y.Op_) y.Op_ y.A_ y.B_ y.C_ y.Imm_, 0) | none => (0, 52)) := by
  obtain ⟨y, e1, e2⟩ := asm_with_eq x last h h1 hl
  unfold asm_reader_place_j1
  rw [e1, bind2_some]
  cases hq : rowW x last with
  | none => rfl
  | some z =>
    have := e2 z hq
    subst this
    obtain ⟨o1, o2⟩ := rowW_op hq
    have h3 := h.2.1
    obtain ⟨s0, s8⟩ := shS_r (op := y.Op_) (by omega) (by omega)
    have := penc (op := y.Op_) (a := y.A_) (b := y.B_) (c := y.C_) (n := y.Imm_) (shape_eq (op := y.Op_) (by omega) (by omega)).1 s0 s8 (by omega) (by omega) o2
    have hy : instr_Encode y = _ := this
    show (if (!true) = true then _ else bind2 (instr_Encode y) _) = _
    rw [if_neg (by decide), hy]; rfl
theorem asm_place_eq {H : Heap} {i : Nat} {u : T_asm_Unit} {rows : List T_asm_row} {k : Nat} {x : T_asm_row} (hH : get_asm_reader H i 0 = some ⟨u, rows⟩) (hx : rows[k]? = some x) (h : okR x) (hls : okLs u.Labels_) (hk : k < 4294967296) :
    asm_reader_place H (.at i 0) (k : Int) = some (placeS u.Labels_ k x) := by
  unfold asm_reader_place placeS
  show bind1 (get_asm_reader H i 0) _ = _
  rw [hH, bind1_some]
  dsimp only
  rw [gi_nat hx, bind1_some]
  by_cases h0 : x.op_ = 0
  · rw [if_pos (by simp [h0]), if_pos h0]
  · have h1 : 1 ≤ x.op_ := by have := h.1; omega
    rw [if_neg (by simpa using h0), if_neg h0, named_eq x (okR_fs h), bind1_some, strEq_nmd]
    obtain ⟨a1, a2⟩ := atS_r hls.2 (namedS x.op_ x.fields_)
    cases hn : nmd x with
    | true =>
      rw [if_pos rfl, asm_At_eq u _ (by have := hls.1; omega), bind1_some, bs_mk]
      by_cases ha : atS (namedS x.op_ x.fields_) u.Labels_ < 0
      · rw [if_pos (by simpa using ha), if_pos ⟨rfl, ha⟩]
      · rw [if_neg (by simpa using ha), if_neg (fun h => ha h.2), wrap_i64 (_ - (k : Int)) (by omega) (by omega), wrap_i64 _ (by omega) (by omega), word_Text_eq (by omega) (by omega), bind1_some]
        have := dec_len (n := atS (namedS x.op_ x.fields_) u.Labels_ - (k : Int) - 1) (by omega) (by omega)
        exact asm_place_j1 h h1 (by omega)
    | false =>
      rw [if_neg (by decide), if_neg (fun h => by cases h.1)]
      exact asm_place_j1 (last := [48]) h h1 (by decide)
end Go.Proofs.Abs
/- Lines, and the whole text, by both. -/
namespace Go.Proofs.Abs
open Go
set_option linter.unusedVariables false
set_option linter.unusedSimpArgs false
theorem opS_r (n : Bs) : 0 ≤ opS n ∧ opS n ≤ 34 := by
  unfold opS
  have : ∀ (l : List Bs) (i : Nat), 0 ≤ findG (fun i x => if x = n then some ((i + 1 : Nat) : Int) else none) 0 i l ∧ findG (fun i x => if x = n then some ((i + 1 : Nat) : Int) else none) 0 i l ≤ ((i + l.length : Nat) : Int) := by
    intro l
    induction l with
    | nil => intro i; unfold findG; omega
    | cons x l ih =>
      intro i
      unfold findG
      rw [List.length_cons]
      by_cases e : x = n
      · rw [if_pos e]; dsimp only; omega
      · rw [if_neg e]; have := ih (i + 1); dsimp only; omega
  exact this opNames 0
def isW (h : Bs) (fs : List Bs) : Bool := decide (h = [87, 79, 82, 68]) && decide (fs.length = 1)
/-- a line that is an instruction, or a word -/
def parseL (n : Int) (s : Bs) : Option T_asm_row := match wordsS s with
  | none => none
  | some (h, fs) => if isW h fs then (hexS (fs.getD 0 [])).map fun w => ⟨n, opS h, fs.map mkB, w⟩
    else if opS h = 0 then none else if (rowW ⟨n, opS h, fs.map mkB, 0⟩ [48]).isSome then some ⟨n, opS h, fs.map mkB, 0⟩ else none
theorem fieldsS_le {s : Bs} {fs : List Bs} (h : fieldsS s = some fs) : fs.length ≤ s.length + 1 ∧ ∀ f ∈ fs, f.length ≤ s.length := by
  unfold fieldsS at h
  split at h
  · cases h; exact split_le _ s (Nat.le_refl _)
  · cases h
theorem wordsS_le {s h : Bs} {fs : List Bs} (e : wordsS s = some (h, fs)) : fs.length ≤ s.length + 1 ∧ ∀ f ∈ fs, f.length ≤ s.length := by
  unfold wordsS at e
  split at e
  · cases e; exact ⟨Nat.zero_le _, fun f hf => by cases hf⟩
  · cases hq : fieldsS (s.drop ((s.takeWhile (· != 32)).length + 1)) with
    | none => rw [hq] at e; cases e
    | some gs =>
      rw [hq] at e; cases e
      have := fieldsS_le hq
      rw [List.length_drop] at this
      exact ⟨by omega, fun f hf => by have := this.2 f hf; omega⟩
theorem row_ok {s h : Bs} {fs : List Bs} {n w : Int} (hs : s.length < 4294967280) (e : wordsS s = some (h, fs)) : okR ⟨n, opS h, fs.map mkB, w⟩ := by
  obtain ⟨l1, l2⟩ := wordsS_le e
  obtain ⟨o1, o2⟩ := opS_r h
  refine ⟨o1, o2, by simp; omega, fun f hf => ?_⟩
  obtain ⟨g, hg, rfl⟩ := List.mem_map.1 hf
  rw [size_mk]
  have := l2 g hg; omega
/-- one line more -/
def lineS (rows : List T_asm_row) (ls : List T_asm_Label) (n : Int) (s : Bs) : (List T_asm_row × List T_asm_Label) ⊕ Int :=
  if s = [] ∨ s.head? = some 59 then .inl (rows, ls)
  else if s.getLast? = some 58 then (if nameS s.dropLast = false then .inr 22 else if 0 ≤ atS s.dropLast ls then .inr 51 else .inl (rows, ls ++ [⟨mkB s.dropLast, (rows.length : Int)⟩]))
  else match parseL n s with
    | none => .inr 22
    | some x => if 16384 ≤ rows.length then .inr 242 else .inl (rows ++ [x], ls)
theorem oR_inj : ∀ (x y : T_asm_reader), o_asm_reader x = o_asm_reader y → x = y := by
  intro x y h
  unfold o_asm_reader at h
  obtain ⟨⟨w, l⟩, r⟩ := x
  obtain ⟨⟨w', l'⟩, r'⟩ := y
  simp only [List.cons.injEq, Prod.mk.injEq, AV.sl.injEq, true_and, and_true] at h
  obtain ⟨h1, h2, h3⟩ := h
  have e1 := map_inj eI_inj _ _ h1
  have e2 := map_inj (E := e_asm_Label) (by intro x y h; cases x; cases y; unfold e_asm_Label at h; simpa using h) _ _ h2
  have e3 := map_inj (E := e_asm_row) (by
    intro x y h; cases x; cases y; unfold e_asm_row at h
    simp only [List.cons.injEq, AV.int.injEq, AV.sl.injEq, true_and, and_true] at h
    obtain ⟨h1, h2, h3, h4⟩ := h
    have := map_inj (E := eS) (by intro x y h; simpa [eS] using h) _ _ h3
    subst h1; subst h2; subst h4; subst this; rfl) _ _ h3
  subst e1; subst e2; subst e3; rfl
theorem oR_len (x : T_asm_reader) : (o_asm_reader x).length = 3 := rfl
theorem gR_app {H E : Heap} {i : Nat} {x : T_asm_reader} (h : get_asm_reader H i 0 = some x) : get_asm_reader (H ++ E) i 0 = some x := hgetT_of oR_inj (hget_app (hgetT_inv h))
theorem gR_set {H : Heap} {i : Nat} {x y : T_asm_reader} (h : get_asm_reader H i 0 = some x) : get_asm_reader (set_asm_reader H i 0 y) i 0 = some y := hgT_set oR_inj oR_len h y
theorem drop_last {s : Bs} {c : UInt8} (h : s.getLast? = some c) : s.drop (s.length - 1) = [c] ∧ s.take (s.length - 1) = s.dropLast := by
  have hne : s ≠ [] := fun e => by subst e; cases h
  refine ⟨?_, (List.dropLast_eq_take ..).symm⟩
  have hpos := List.length_pos_iff.2 hne
  have hl := last_at h
  rw [List.drop_eq_getElem_cons (by omega), List.drop_eq_nil_of_le (by omega)]
  rw [List.getElem?_eq_getElem (by omega)] at hl
  cases hl; rfl
theorem suffix_eq (s : ByteArray) (hs : s.size < 4294967280) (hne : bs s ≠ []) : strings_CutSuffix s { data := #[58] } = some (if (bs s).getLast? = some 58 then (mkB (bs s).dropLast, true) else (s, false)) := by
  unfold strings_CutSuffix internal_stringslite_CutSuffix internal_stringslite_HasSuffix
  have hpos := List.length_pos_iff.2 hne
  rw [size_bs] at hs ⊢
  have e1 : (((({ data := #[58] } : ByteArray)).size : Nat) : Int) = 1 := rfl
  have e2 : IntKind.wrap .i64 (((bs s).length : Int) - 1) = (((bs s).length - 1 : Nat) : Int) := by rw [wrap_i64 _ (by omega) (by omega)]; omega
  obtain ⟨c, hc⟩ : ∃ c, (bs s).getLast? = some c := ⟨_, List.getLast?_eq_some_getLast hne⟩
  obtain ⟨d1, d2⟩ := drop_last hc
  have c1 : sCut s (((bs s).length - 1 : Nat) : Int) ((bs s).length : Int) = some (mkB [c]) := by
    have := sCut_all s (lo := (bs s).length - 1) (by omega)
    rw [size_bs, d1] at this
    exact this
  have c2 : sCut s 0 (((bs s).length - 1 : Nat) : Int) = some (mkB (bs s).dropLast) := by
    have := sCut_some s (lo := 0) (hi := (bs s).length - 1) (Nat.zero_le _) (by omega)
    rw [List.drop_zero, Nat.sub_zero, d2] at this
    exact this
  rw [e1, e2, if_pos (by simp; omega), c1, bind1_some, show strEq (mkB [c]) { data := #[58] } = decide (bs (mkB [c]) = [58]) from strEq_mk _ _, bs_mk, bind1_some, bind1_some, c2, hc]
  by_cases e : c = 58
  · subst e; rfl
  · rw [decide_eq_false (by simpa using e), if_pos (by decide), if_neg (by simpa using e)]; rfl
/-- what a line leaves -/
def lineOk (H : Heap) (i : Nat) (W : List Int) (q : Option (Heap × Int)) (r : (List T_asm_row × List T_asm_Label) ⊕ Int) : Prop := ∃ H' e, q = some (H', e) ∧ match r with
  | .inl (rows, ls) => e = 0 ∧ get_asm_reader H' i 0 = some ⟨⟨W, ls⟩, rows⟩
  | .inr c => e = c
theorem asm_line_eq {H : Heap} {i : Nat} {W : List Int} {rows : List T_asm_row} {ls : List T_asm_Label} (n : Int) (s : ByteArray) (hs : s.size < 4294967280) (hH : get_asm_reader H i 0 = some ⟨⟨W, ls⟩, rows⟩) (hr : rows.length ≤ 4294967296) (hl : ls.length ≤ 4294967296) :
    lineOk H i W (asm_reader_line H (.at i 0) n s) (lineS rows ls n (bs s)) := by
  unfold asm_reader_line lineS
  rw [strEq_nil]
  cases hb : bs s with
  | nil =>
    rw [decide_eq_true rfl, if_pos rfl, bind1_some, if_pos rfl, if_pos (.inl rfl)]
    exact ⟨H, 0, rfl, rfl, hH⟩
  | cons c r =>
    have hs0 : sAt s 0 = some (u8i c) := sAt_some (i := 0) (by rw [hb]; rfl)
    rw [decide_eq_false (by simp), if_neg (by decide), hs0, bind1_some, bind1_some]
    by_cases e : c = 59
    · subst e
      rw [if_pos (by rfl), if_pos (.inr rfl)]
      exact ⟨H, 0, rfl, rfl, hH⟩
    · have hne : ¬ ((c :: r : Bs) = [] ∨ (c :: r : Bs).head? = some 59) := by simpa using e
      rw [if_neg (by rw [beq_iff_eq]; exact fun h => e (u8i_inj h)), if_neg hne, suffix_eq s hs (by rw [hb]; simp), hb]
      have hs' := hs
      rw [size_bs, hb] at hs'
      by_cases hl58 : (c :: r : Bs).getLast? = some 58
      · rw [if_pos hl58, if_pos hl58, bind2_some, if_pos rfl, asm_Name_eq _ (by rw [size_mk, List.length_dropLast]; omega), bind1_some, bs_mk]
        cases hn : nameS (c :: r : Bs).dropLast with
        | false =>
          rw [if_pos (by decide), if_pos rfl]
          exact ⟨H, 22, rfl, rfl⟩
        | true =>
          rw [if_neg (by decide), if_neg (by decide)]
          show lineOk H i W (bind1 (get_asm_reader H i 0) _) _
          rw [hH, bind1_some, asm_At_eq _ _ (by show ls.length < _; omega), bind1_some, bs_mk]
          by_cases ha : 0 ≤ atS (c :: r : Bs).dropLast ls
          · rw [if_pos (by simpa using ha), if_pos ha]
            exact ⟨H, 51, rfl, rfl⟩
          · rw [if_neg (by simpa using ha), if_neg ha, app_some (by simp; omega), bind1_some, bnd_def]
            exact ⟨_, 0, rfl, rfl, gR_set hH⟩
      · rw [if_neg hl58, if_neg hl58, bind2_some, if_neg (by decide)]
        obtain ⟨E, hE⟩ := asm_words_eq H s hs
        rw [hE, hb]
        have fin : ∀ (ok : Bool) (x : T_asm_row), lineOk H i W (asm_reader_line_j1 (H ++ E) (.at i 0) ok x) (if ok then (if 16384 ≤ rows.length then .inr 242 else .inl (rows ++ [x], ls)) else .inr 22) := by
          intro ok x
          unfold asm_reader_line_j1
          cases ok with
          | false => exact ⟨H ++ E, 22, rfl, rfl⟩
          | true =>
            rw [if_neg (by decide), if_pos rfl]
            show lineOk H i W (bind1 (get_asm_reader (H ++ E) i 0) _) _
            rw [gR_app hH, bind1_some]
            dsimp only
            by_cases hq : 16384 ≤ rows.length
            · rw [if_pos (by simp; omega), if_pos hq]
              exact ⟨_, 242, rfl, rfl⟩
            · rw [if_neg (by simp; omega), if_neg hq, app_some (by simp; omega), bind1_some, bnd_def]
              exact ⟨_, 0, rfl, rfl, gR_set (gR_app hH)⟩
        unfold parseL
        cases hw : wordsS (c :: r) with
        | none =>
          dsimp only
          rw [bind4_some, instr_Op_eq, bind1_some, show opS (bs (mkB [])) = 0 from by kernel_rfl]
          have e1 : (strEq (mkB []) { data := #[87, 79, 82, 68] } && ((([] : List ByteArray).length : Int) == 1)) = false := by simp
          rw [e1, if_neg (by decide), if_pos (by decide), bind1_some, if_pos rfl]
          exact fin false _
        | some p =>
          obtain ⟨h, fs⟩ := p
          have hok := fun (w : Int) => row_ok (n := n) (w := w) hs' hw
          dsimp only
          rw [bind4_some, instr_Op_eq, bind1_some, bs_mk]
          have e1 : (strEq (mkB h) { data := #[87, 79, 82, 68] } && (((fs.map mkB).length : Int) == 1)) = isW h fs := by
            unfold isW
            rw [show strEq (mkB h) { data := #[87, 79, 82, 68] } = decide (bs (mkB h) = [87, 79, 82, 68]) from strEq_mk _ _, bs_mk, List.length_map]
            congr 1
            rw [Bool.eq_iff_iff]; simp; omega
          rw [e1]
          cases hi : isW h fs with
          | true =>
            unfold isW at hi
            simp only [Bool.and_eq_true, decide_eq_true_eq] at hi
            obtain ⟨rfl, hlen⟩ := hi
            obtain ⟨f, rfl⟩ := List.length_eq_one_iff.1 hlen
            have g0 : gi (([f] : List Bs).map mkB) 0 = some (mkB f) := rfl
            rw [if_pos rfl, if_pos rfl, g0, bind1_some, word_ParseHex_eq, bs_mk, show ([f] : List Bs).getD 0 [] = f from rfl]
            cases hexS f with
            | none => exact fin false _
            | some w => exact fin true _
          | false =>
            rw [if_neg (show ¬ (false = true) by decide), if_neg (show ¬ (false = true) by decide)]
            by_cases h0 : opS h = 0
            · rw [if_pos (by simp [h0]), if_pos h0, bind1_some, if_pos rfl]
              exact fin false _
            · rw [if_neg (by simpa using h0), if_neg h0]
              obtain ⟨y, y1, y2⟩ := asm_with_eq ⟨n, opS h, fs.map mkB, 0⟩ [48] (hok 0) (by have := (opS_r h).1; show 1 ≤ opS h; omega) (by decide)
              have y1 : asm_row_with ⟨n, opS h, fs.map mkB, 0⟩ { data := #[48] } = _ := y1
              unfold asm_row_right
              rw [y1, bind2_some, bind1_some, bind1_some]
              cases (rowW ⟨n, opS h, fs.map mkB, 0⟩ [48]).isSome with
              | true =>
                rw [if_neg (by decide)]
                exact fin true _
              | false =>
                rw [if_pos (by decide)]
                exact fin false _
end Go.Proofs.Abs
/- The whole text, by both. -/
namespace Go.Proofs.Abs
open Go
set_option linter.unusedVariables false
set_option linter.unusedSimpArgs false
def asmL : List T_asm_row → List T_asm_Label → Nat → List Bs → (List T_asm_row × List T_asm_Label) ⊕ (Int × Int)
  | rows, ls, _, [] => .inl (rows, ls)
  | rows, ls, i, s :: r => match lineS rows ls ((i + 1 : Nat) : Int) s with
    | .inl q => asmL q.1 q.2 (i + 1) r
    | .inr e => .inr (((i + 1 : Nat) : Int), e)
theorem asmL_cons (rows : List T_asm_row) (ls : List T_asm_Label) (i : Nat) (s : Bs) (r : List Bs) : asmL rows ls i (s :: r) = match lineS rows ls ((i + 1 : Nat) : Int) s with
    | .inl q => asmL q.1 q.2 (i + 1) r
    | .inr e => .inr (((i + 1 : Nat) : Int), e) := rfl
def asmW (ls : List T_asm_Label) : Nat → List T_asm_row → List Int → List Int ⊕ (Int × Int)
  | _, [], out => .inl out
  | k, x :: r, out => if (placeS ls k x).2 = 0 then asmW ls (k + 1) r (out ++ [(placeS ls k x).1]) else .inr (x.line_, (placeS ls k x).2)
/-- what a text comes to -/
def asmS (s : Bs) : List Int × List T_asm_Label × Int × Int :=
  if 4096 < (cuts 10 s).length then ([], [], 4097, 242) else match asmL [] [] 0 (cuts 10 s) with
    | .inr q => ([], [], q.1, q.2)
    | .inl p => match asmW p.2 0 p.1 [] with
      | .inl w => (w, p.2, 0, 0)
      | .inr q => ([], [], q.1, q.2)
/-- rows and labels as they may be -/
def inv (i : Nat) (rows : List T_asm_row) (ls : List T_asm_Label) : Prop := rows.length ≤ 16384 ∧ rows.length ≤ i ∧ ls.length ≤ i ∧ (∀ x ∈ rows, okR x) ∧ ∀ l ∈ ls, 0 ≤ l.At_ ∧ l.At_ ≤ 4294967296
theorem line_inv {i : Nat} {rows rows' : List T_asm_row} {ls ls' : List T_asm_Label} {n : Int} {s : Bs} (hs : s.length < 4294967280) (h : inv i rows ls) (e : lineS rows ls n s = .inl (rows', ls')) : inv (i + 1) rows' ls' := by
  obtain ⟨h1, h2, h3, h4, h5⟩ := h
  unfold lineS at e
  split at e
  · cases e; exact ⟨h1, by omega, by omega, h4, h5⟩
  · split at e
    · split at e
      · cases e
      · split at e
        · cases e
        · cases e
          refine ⟨h1, by omega, by simp; omega, h4, fun l hl => ?_⟩
          rcases List.mem_append.1 hl with hl | hl
          · exact h5 l hl
          · rw [List.mem_singleton.1 hl]; dsimp only; omega
    · split at e
      · cases e
      · rename_i x hx
        split at e
        · cases e
        · cases e
          refine ⟨by simp; omega, by simp; omega, by omega, fun y hy => ?_, h5⟩
          rcases List.mem_append.1 hy with hy | hy
          · exact h4 y hy
          · rw [List.mem_singleton.1 hy]
            unfold parseL at hx
            cases hw : wordsS s with
            | none => rw [hw] at hx; cases hx
            | some p =>
              obtain ⟨hd, fs⟩ := p
              rw [hw] at hx
              dsimp only at hx
              split at hx
              · cases hq : hexS (fs.getD 0 []) with
                | none => rw [hq] at hx; cases hx
                | some w => rw [hq] at hx; cases hx; exact row_ok hs hw
              · split at hx
                · cases hx
                · split at hx
                  · cases hx; exact row_ok hs hw
                  · cases hx
theorem asmL_inv : ∀ (l : List Bs) (i : Nat) (rows rows' : List T_asm_row) (ls ls' : List T_asm_Label), (∀ s ∈ l, s.length < 4294967280) → inv i rows ls → asmL rows ls i l = .inl (rows', ls') → inv (i + l.length) rows' ls'
  | [], i, rows, rows', ls, ls', _, h, e => by cases e; exact h
  | s :: r, i, rows, rows', ls, ls', hs, h, e => by
    unfold asmL at e
    cases hq : lineS rows ls ((i + 1 : Nat) : Int) s with
    | inr c => rw [hq] at e; cases e
    | inl q =>
      rw [hq] at e
      have := asmL_inv r (i + 1) q.1 rows' q.2 ls' (fun t ht => hs t (List.mem_cons_of_mem _ ht)) (line_inv (hs s (List.mem_cons_self ..)) h hq) e
      rw [List.length_cons, show i + (r.length + 1) = i + 1 + r.length by omega]
      exact this
theorem asm_L1 (L : List ByteArray) (hL : L.length ≤ 4096) (hs : ∀ s ∈ L, s.size < 4294967280) : ∀ (l : List ByteArray) (i : Nat) (H : Heap) (rows : List T_asm_row) (ls : List T_asm_Label), L.drop i = l → i ≤ L.length → get_asm_reader H 0 0 = some ⟨⟨[], ls⟩, rows⟩ → inv i rows ls →
    ∃ r, loopO (fun (x : (Int × Heap)) => asm_Assemble_L1 L 0 x.1 x.2) ((i : Int), H) = some r ∧ match asmL rows ls i (l.map bs) with
      | .inl p => ∃ H', r = .inl H' ∧ get_asm_reader H' 0 0 = some ⟨⟨[], p.2⟩, p.1⟩
      | .inr q => ∃ H', r = .inr (q.1, q.2, H')
  | [], i, H, rows, ls, hl, hi, hH, hv => by
    have : i = L.length := by have := congrArg List.length hl; simp at this; omega
    subst this
    refine ⟨.inl H, loopO_out ?_, H, rfl, hH⟩
    unfold asm_Assemble_L1
    dsimp only
    rw [i_ge, if_neg (by decide)]
  | s :: l, i, H, rows, ls, hl, hi, hH, hv => by
    have hx : L[i]? = some s := by have := congrArg (·[0]?) hl; simpa using this
    have hil := len_of hx
    have hd : L.drop (i + 1) = l := by rw [← List.drop_drop, hl]; rfl
    have hss := hs s (List.mem_of_getElem? hx)
    obtain ⟨H', e, h1, h2⟩ := asm_line_eq ((i + 1 : Nat) : Int) s hss hH (by have := hv.1; omega) (by have := hv.2.2.1; omega)
    have step : asm_Assemble_L1 L 0 (i : Int) H = some (if e = 0 then .inl (((i + 1 : Nat) : Int), H') else .inr (.inr (((i + 1 : Nat) : Int), e, H'))) := by
      unfold asm_Assemble_L1
      rw [i_lt hx, if_pos rfl, gi_nat hx, bind1_some, wr64 i (by omega), h1, bind2_some]
      by_cases he : e = 0
      · rw [if_neg (by simp [he]), if_pos he]
      · rw [if_pos (by simpa using he), if_neg he]
    rw [List.map_cons, asmL_cons]
    have ne0 : ∀ c, lineS rows ls ((i + 1 : Nat) : Int) (bs s) = .inr c → c ≠ 0 := by
      intro c hc
      unfold lineS at hc
      split at hc
      · cases hc
      · split at hc
        · split at hc
          · cases hc; decide
          · split at hc
            · cases hc; decide
            · cases hc
        · split at hc
          · cases hc; decide
          · split at hc
            · cases hc; decide
            · cases hc
    cases hq : lineS rows ls ((i + 1 : Nat) : Int) (bs s) with
    | inr c =>
      rw [hq] at h2
      have h2 : e = c := h2
      rw [if_neg (by rw [h2]; exact ne0 c hq)] at step
      exact ⟨_, loopO_out step, H', by rw [h2]⟩
    | inl q =>
      rw [hq] at h2
      obtain ⟨e0, h2⟩ := h2
      rw [if_pos e0] at step
      rw [size_bs] at hss
      obtain ⟨r, r1, r2⟩ := asm_L1 L hL hs l (i + 1) H' q.1 q.2 hd hil h2 (line_inv hss hv hq)
      exact ⟨r, by rw [loopO_go (s' := (((i + 1 : Nat) : Int), H')) step]; exact r1, r2⟩
theorem asm_L2 (rows : List T_asm_row) (ls : List T_asm_Label) (x16 : T_asm_reader) (h16 : x16.rows_ = rows) (hv : rows.length ≤ 16384) (hr : ∀ x ∈ rows, okR x) (hls : okLs ls) : ∀ (l : List T_asm_row) (k : Nat) (H : Heap) (out : List Int), rows.drop k = l → k ≤ rows.length → out.length = k → get_asm_reader H 0 0 = some ⟨⟨out, ls⟩, rows⟩ →
    ∃ r, loopO (fun (x : (Int × Heap)) => asm_Assemble_L2 x16 0 x.1 x.2) ((k : Int), H) = some r ∧ match asmW ls k l out with
      | .inl w => ∃ H', r = .inl H' ∧ get_asm_reader H' 0 0 = some ⟨⟨w, ls⟩, rows⟩
      | .inr q => ∃ H', r = .inr (q.1, q.2, H')
  | [], k, H, out, hl, hk, ho, hH => by
    have : k = rows.length := by have := congrArg List.length hl; simp at this; omega
    subst this
    refine ⟨.inl H, loopO_out ?_, H, rfl, hH⟩
    unfold asm_Assemble_L2
    dsimp only
    rw [h16, i_ge, if_neg (by decide)]
  | x :: l, k, H, out, hl, hk, ho, hH => by
    have hx : rows[k]? = some x := by have := congrArg (·[0]?) hl; simpa using this
    have hil := len_of hx
    have hd : rows.drop (k + 1) = l := by rw [← List.drop_drop, hl]; rfl
    have hp := asm_place_eq hH hx (hr x (List.mem_of_getElem? hx)) hls (by omega)
    dsimp only at hp
    obtain ⟨w, e, hpe⟩ : ∃ w e, placeS ls k x = (w, e) := ⟨_, _, rfl⟩
    rw [hpe] at hp
    unfold asmW
    rw [hpe]
    dsimp only
    by_cases he : e = 0
    · have step : asm_Assemble_L2 x16 0 (k : Int) H = some (.inl (((k + 1 : Nat) : Int), set_asm_reader H 0 0 ⟨⟨out ++ [w], ls⟩, rows⟩)) := by
        unfold asm_Assemble_L2
        rw [h16, i_lt hx, if_pos rfl, hH, bind1_some]
        dsimp only
        rw [gi_nat hx, bind1_some, show sameN rows.length rows.length = some () from if_pos rfl, bind1_some, hp, bind2_some, if_neg (by simp [he]), app_some (by simp; omega), bind1_some, bnd_def, wr64 k (by omega)]
      obtain ⟨r, r1, r2⟩ := asm_L2 rows ls x16 h16 hv hr hls l (k + 1) _ (out ++ [w]) hd hil (by simp; omega) (gR_set hH)
      rw [if_pos he]
      exact ⟨r, by rw [loopO_go (s' := (((k + 1 : Nat) : Int), set_asm_reader H 0 0 ⟨⟨out ++ [w], ls⟩, rows⟩)) step]; exact r1, r2⟩
    · have step : asm_Assemble_L2 x16 0 (k : Int) H = some (.inr (.inr (x.line_, e, H))) := by
        unfold asm_Assemble_L2
        rw [h16, i_lt hx, if_pos rfl, hH, bind1_some]
        dsimp only
        rw [gi_nat hx, bind1_some, show sameN rows.length rows.length = some () from if_pos rfl, bind1_some, hp, bind2_some, if_pos (by simpa using he)]
      rw [if_neg he]
      exact ⟨_, loopO_out step, H, rfl⟩
theorem cuts_sz {s : ByteArray} (hs : s.size < 4294967280) : ∀ t ∈ (cuts 10 (bs s)).map mkB, t.size < 4294967280 := by
  intro t ht
  obtain ⟨p, hp, rfl⟩ := List.mem_map.1 ht
  have := cuts_mem_le 10 (bs s) p hp
  rw [size_mk]; rw [size_bs] at hs; omega
theorem map_bs_mk (l : List Bs) : (l.map mkB).map bs = l := by rw [List.map_map]; exact List.map_id _
theorem asm_eq (s : ByteArray) (hs : s.size < 4294967280) : asm_Assemble s = some (⟨(asmS (bs s)).1, (asmS (bs s)).2.1⟩, (asmS (bs s)).2.2.1, (asmS (bs s)).2.2.2) := by
  unfold asm_Assemble asmS
  have sp : splitC s { data := #[10] } = _ := splitC_eq s [10] (by omega) (by simp)
  rw [sp, bind1_some, split_one, List.length_map]
  by_cases h : 4096 < (cuts 10 (bs s)).length
  · rw [if_pos (by simp; omega), if_pos h]
  · rw [if_neg (by simp; omega), if_neg h, bnd_def, bnd_def, show ([] : Heap).length = 0 from rfl]
    have g0 : get_asm_reader (new_asm_reader ([] : Heap) ⟨⟨[], []⟩, []⟩) 0 0 = some ⟨⟨[], []⟩, []⟩ := hgT_new (en := o_asm_reader) (n := 3) oR_inj oR_len [] _
    obtain ⟨r, r1, r2⟩ := asm_L1 ((cuts 10 (bs s)).map mkB) (by simp; omega) (cuts_sz hs) _ 0 _ [] [] rfl (Nat.zero_le _) g0 ⟨by decide, by decide, by decide, fun x hx => (by cases hx), fun x hx => (by cases hx)⟩
    have r1 : loopO (fun (x : (Int × Heap)) => asm_Assemble_L1 ((cuts 10 (bs s)).map mkB) 0 x.1 x.2) (0, new_asm_reader ([] : Heap) ⟨⟨[], []⟩, []⟩) = _ := r1
    rw [r1, bind1_some]
    rw [List.drop_zero, map_bs_mk] at r2
    cases hq : asmL [] [] 0 (cuts 10 (bs s)) with
    | inr q =>
      rw [hq] at r2
      obtain ⟨H', rfl⟩ := r2
      rfl
    | inl p =>
      rw [hq] at r2
      obtain ⟨H', rfl, h2⟩ := r2
      have hin := asmL_inv (cuts 10 (bs s)) 0 [] p.1 [] p.2 (fun t ht => by
        have := cuts_mem_le 10 (bs s) t ht
        rw [size_bs] at hs; omega) ⟨by decide, by decide, by decide, fun x hx => (by cases hx), fun x hx => (by cases hx)⟩ hq
      obtain ⟨v1, v2, v3, v4, v5⟩ := hin
      rw [sum2_inl, h2, bind1_some]
      obtain ⟨r, r1, r2⟩ := asm_L2 p.1 p.2 ⟨⟨[], p.2⟩, p.1⟩ rfl v1 v4 ⟨by omega, v5⟩ _ 0 H' [] rfl (Nat.zero_le _) rfl h2
      have r1 : loopO (fun (x : (Int × Heap)) => asm_Assemble_L2 ⟨⟨[], p.2⟩, p.1⟩ 0 x.1 x.2) (0, H') = _ := r1
      rw [r1, bind1_some]
      rw [List.drop_zero] at r2
      dsimp only
      cases hw : asmW p.2 0 p.1 [] with
      | inr q =>
        rw [hw] at r2
        obtain ⟨H2, rfl⟩ := r2
        rfl
      | inl w =>
        rw [hw] at r2
        obtain ⟨H2, rfl, h3⟩ := r2
        rw [sum2_inl, h3, bind1_some]
end Go.Proofs.Abs
/- Words alike; how many there are. -/
namespace Go.Proofs.Abs
open Go
set_option linter.unusedVariables false
set_option linter.unusedSimpArgs false
theorem words_same (w : List Int) (h : w.length < 4611686018427387904) : ref01_Words w w = some true := by
  unfold ref01_Words
  rw [if_neg (by simp)]
  have hl := loop_find (xs := w) (f := fun (x : Int) => ref01_Words_L1 w w x) (fun _ _ => none) (.inl ())
    (fun i x hx => by
      unfold ref01_Words_L1
      rw [i_lt hx, if_pos rfl, gi_nat hx, bind1_some, bind1_some, if_neg (by simp), wr64 i (by have := len_of hx; omega)])
    (by unfold ref01_Words_L1; rw [i_ge, if_neg (by decide)])
  have e : ∀ (l : List Int) (i : Nat), findG (fun _ _ => none) (.inl () : Unit ⊕ Unit) i l = .inl () := by
    intro l
    induction l with
    | nil => intro i; rfl
    | cons x l ih => intro i; exact ih (i + 1)
  rw [hl, e]; rfl
end Go.Proofs.Abs
/- Texts in pieces. The runtime's text. -/
namespace Go.Proofs.Abs
open Go
set_option linter.unusedVariables false
set_option linter.unusedSimpArgs false
theorem cuts_cons (c x : UInt8) (l : Bs) : cuts c (x :: l) = if x = c then [] :: cuts c l else match cuts c l with
    | h :: t => (x :: h) :: t
    | [] => [[x]] := rfl
theorem cuts_two (c : UInt8) (b : Bs) : ∀ a : Bs, cuts c (a ++ c :: b) = cuts c a ++ cuts c b
  | [] => by simp [cuts]
  | x :: a => by
    have ih := cuts_two c b a
    rw [List.cons_append, cuts_cons, cuts_cons]
    by_cases e : x = c
    · rw [if_pos e, if_pos e, ih]; rfl
    · rw [if_neg e, if_neg e, ih]
      cases hc : cuts c a with
      | nil => exact absurd hc (cuts_ne c a)
      | cons h t => rfl
theorem asmL_app (l2 : List Bs) : ∀ (l1 : List Bs) (rows rows' : List T_asm_row) (ls ls' : List T_asm_Label) (i : Nat), asmL rows ls i l1 = .inl (rows', ls') → asmL rows ls i (l1 ++ l2) = asmL rows' ls' (i + l1.length) l2
  | [], rows, rows', ls, ls', i, h => by cases h; rfl
  | s :: l1, rows, rows', ls, ls', i, h => by
    rw [asmL_cons] at h
    rw [List.cons_append, asmL_cons]
    cases hq : lineS rows ls ((i + 1 : Nat) : Int) s with
    | inr e => rw [hq] at h; cases h
    | inl q =>
      rw [hq] at h
      have := asmL_app l2 l1 q.1 rows' q.2 ls' (i + 1) h
      rw [List.length_cons, show i + (l1.length + 1) = i + 1 + l1.length by omega]
      exact this
theorem asmW_app (ls : List T_asm_Label) (l2 : List T_asm_row) : ∀ (l1 : List T_asm_row) (k : Nat) (out out' : List Int), asmW ls k l1 out = .inl out' → asmW ls k (l1 ++ l2) out = asmW ls (k + l1.length) l2 out'
  | [], k, out, out', h => by cases h; rfl
  | x :: l1, k, out, out', h => by
    unfold asmW at h
    show (if (placeS ls k x).2 = 0 then asmW ls (k + 1) (l1 ++ l2) (out ++ [(placeS ls k x).1]) else _) = _
    split at h
    · rename_i h0
      rw [if_pos h0, asmW_app ls l2 l1 (k + 1) _ out' h, List.length_cons, show k + 1 + l1.length = k + (l1.length + 1) by omega]
    · cases h
/-- lines that are instructions, whatever their number, each by itself one word -/
def plainL (s : Bs) (op : Int) (fs : List ByteArray) (w : Int) (v : Int) : Prop :=
  s ≠ [] ∧ s.head? ≠ some 59 ∧ s.getLast? ≠ some 58 ∧ (∀ n, parseL n s = some ⟨n, op, fs, w⟩) ∧ ∀ ls k n, placeS ls k ⟨n, op, fs, w⟩ = (v, 0)
theorem plain_line {s : Bs} {op w v : Int} {fs : List ByteArray} (h : plainL s op fs w v) (rows : List T_asm_row) (ls : List T_asm_Label) (n : Int) (hr : rows.length < 16384) : lineS rows ls n s = .inl (rows ++ [⟨n, op, fs, w⟩], ls) := by
  obtain ⟨h1, h2, h3, h4, h5⟩ := h
  unfold lineS
  rw [if_neg (by rintro (h | h); exact h1 h; exact h2 h), if_neg h3, h4]
  dsimp only
  rw [if_neg (by omega)]
/-- many such lines -/
inductive Plains : List Bs → List (Int × List ByteArray × Int) → List Int → Prop
  | nil : Plains [] [] []
  | cons {s op fs w v l r vs} : plainL s op fs w v → Plains l r vs → Plains (s :: l) ((op, fs, w) :: r) (v :: vs)
def rowsAt : Nat → List (Int × List ByteArray × Int) → List T_asm_row
  | _, [] => []
  | i, x :: r => ⟨((i + 1 : Nat) : Int), x.1, x.2.1, x.2.2⟩ :: rowsAt (i + 1) r
theorem plains_L {l : List Bs} {r vs} (h : Plains l r vs) : ∀ (rows : List T_asm_row) (ls : List T_asm_Label) (i : Nat), rows.length + l.length ≤ 16384 → asmL rows ls i l = .inl (rows ++ rowsAt i r, ls) := by
  induction h with
  | nil => intro rows ls i _; simp [asmL, rowsAt]
  | cons h _ ih =>
    intro rows ls i hr
    rw [List.length_cons] at hr
    rw [asmL_cons, plain_line h rows ls _ (by omega)]
    dsimp only
    rw [ih _ _ _ (by simp; omega), List.append_assoc]; rfl
theorem plains_W {l : List Bs} {r vs} (h : Plains l r vs) : ∀ (ls : List T_asm_Label) (k i : Nat) (out : List Int), asmW ls k (rowsAt i r) out = .inl (out ++ vs) := by
  induction h with
  | nil => intro ls k i out; simp [asmW, rowsAt]
  | cons h _ ih =>
    intro ls k i out
    show (if (placeS ls k _).2 = 0 then asmW ls (k + 1) (rowsAt (i + 1) _) (out ++ [(placeS ls k _).1]) else _) = _
    rw [h.2.2.2.2]
    dsimp only
    rw [if_pos rfl, ih, List.append_assoc]; rfl
theorem Plains.app {l1 r1 v1 l2 r2 v2} (h : Plains l1 r1 v1) (k : Plains l2 r2 v2) : Plains (l1 ++ l2) (r1 ++ r2) (v1 ++ v2) := by
  induction h with
  | nil => exact k
  | cons h _ ih => exact .cons h ih
theorem Plains.len {l r vs} (h : Plains l r vs) : r.length = l.length ∧ vs.length = l.length := by
  induction h with
  | nil => exact ⟨rfl, rfl⟩
  | cons _ _ ih => simp [ih]
/-- a text that ends in such lines -/
theorem asmS_tail {a b : Bs} {la lb : List Bs} {rows : List T_asm_row} {ls : List T_asm_Label} {out : List Int} {r vs} (ha : cuts 10 a = la) (hb : cuts 10 b = lb ++ [[]]) (h1 : asmL [] [] 0 la = .inl (rows, ls)) (h2 : asmW ls 0 rows [] = .inl out) (h : Plains lb r vs)
    (hl : la.length + lb.length + 1 ≤ 4096) (hr : rows.length + lb.length ≤ 16384) : asmS (a ++ 10 :: b) = (out ++ vs, ls, 0, 0) := by
  unfold asmS
  have hc : cuts 10 (a ++ 10 :: b) = la ++ (lb ++ [[]]) := by rw [cuts_two, ha, hb]
  have e1 : asmL rows ls (0 + la.length) (lb ++ [[]]) = .inl (rows ++ rowsAt (0 + la.length) r, ls) := by
    rw [asmL_app [[]] lb _ _ _ _ _ (plains_L h rows ls (0 + la.length) hr)]
    rfl
  rw [hc, if_neg (by simp; omega), asmL_app _ la _ _ _ _ _ h1, e1]
  dsimp only
  rw [asmW_app _ _ _ _ _ _ h2, plains_W h]
end Go.Proofs.Abs
/- The runtime's text, for so many modules, as words. -/
namespace Go.Proofs.Abs
open Go
set_option linter.unusedVariables false
set_option linter.unusedSimpArgs false
set_option maxRecDepth 100000
def srcA : Bs := [59, 32, 119, 104, 97, 116, 32, 105, 115, 32, 114, 97, 105, 115, 101, 100, 44, 32, 97, 110, 100, 32, 119, 104, 101, 114, 101, 10, 118, 101, 99, 116, 111, 114, 58, 10, 82, 84, 67, 32, 114, 48, 44, 32, 49, 10, 82, 84, 67, 32, 114, 49, 44, 32, 48, 10, 79, 85, 84, 32, 114, 48, 44, 32, 50, 10, 59, 32, 116, 104, 101, 32, 116, 97, 98, 108, 101, 32, 111, 102, 32, 115, 101, 103, 109, 101, 110, 116, 115, 10, 110, 101, 120, 116, 58, 10, 76, 85, 73, 32, 114, 54, 44, 32, 48, 10, 79, 82, 73, 32, 114, 54, 44, 32, 114, 54, 44, 32, 48, 10, 76, 68, 87, 32, 114, 51, 44, 32, 114, 54, 44, 32, 48, 10, 65, 68, 68, 73, 32, 114, 54, 44, 32, 114, 54, 44, 32, 52, 10, 76, 68, 73, 32, 114, 50, 44, 32, 48, 10, 59, 32, 116, 104, 101, 32, 108, 97, 115, 116, 32, 111, 110, 101, 32, 116, 104, 97, 116, 32, 98, 101, 103, 105, 110, 115, 32, 97, 116, 32, 111, 114, 32, 97, 104, 101, 97, 100, 32, 111, 102, 32, 105, 116, 10, 115, 101, 97, 114, 99, 104, 58, 10, 83, 85, 66, 32, 114, 52, 44, 32, 114, 51, 44, 32, 114, 50, 10, 76, 68, 73, 32, 114, 53, 44, 32, 49, 10, 83, 76, 69, 32, 114, 53, 44, 32, 114, 52, 44, 32, 114, 53, 10, 66, 78, 90, 32, 114, 53, 44, 32, 102, 111, 117, 110, 100, 10, 65, 68, 68, 32, 114, 52, 44, 32, 114, 50, 44, 32, 114, 51, 10, 76, 68, 73, 32, 114, 53, 44, 32, 50, 10, 68, 73, 86, 32, 114, 52, 44, 32, 114, 52, 44, 32, 114, 53, 10, 76, 68, 73, 32, 114, 53, 44, 32, 56, 10, 77, 85, 76, 32, 114, 53, 44, 32, 114, 52, 44, 32, 114, 53, 10, 65, 68, 68, 32, 114, 53, 44, 32, 114, 53, 44, 32, 114, 54, 10, 76, 68, 87, 32, 114, 53, 44, 32, 114, 53, 44, 32, 48, 10, 83, 76, 69, 32, 114, 53, 44, 32, 114, 53, 44, 32, 114, 49, 10, 66, 90, 32, 114, 53, 44, 32, 117, 112, 112, 101, 114, 10, 65, 68, 68, 73, 32, 114, 50, 44, 32, 114, 52, 44, 32, 48, 10, 66, 82, 32, 115, 101, 97, 114, 99, 104, 10, 117, 112, 112, 101, 114, 58, 10, 65, 68, 68, 73, 32, 114, 51, 44, 32, 114, 52, 44, 32, 48, 10, 66, 82, 32, 115, 101, 97, 114, 99, 104, 10, 102, 111, 117, 110, 100, 58, 10, 76, 68, 73, 32, 114, 53, 44, 32, 56, 10, 77, 85, 76, 32, 114, 53, 44, 32, 114, 50, 44, 32, 114, 53, 10, 65, 68, 68, 32, 114, 53, 44, 32, 114, 53, 44, 32, 114, 54, 10, 76, 68, 87, 32, 114, 52, 44, 32, 114, 53, 44, 32, 52, 10, 66, 78, 90, 32, 114, 52, 44, 32, 112, 97, 100, 10, 59, 32, 110, 111, 110, 101, 58, 32, 105, 116, 32, 103, 111, 101, 115, 32, 111, 110, 32, 119, 104, 101, 114, 101, 32, 116, 104, 105, 115, 32, 119, 97, 115, 32, 99, 97, 108, 108, 101, 100, 10, 76, 68, 87, 32, 114, 49, 44, 32, 114, 49, 51, 44, 32, 52, 10, 65, 68, 68, 73, 32, 114, 49, 44, 32, 114, 49, 44, 32, 45, 52, 10, 76, 68, 87, 32, 114, 49, 51, 44, 32, 114, 49, 51, 44, 32, 48, 10, 66, 82, 32, 110, 101, 120, 116, 10, 112, 97, 100, 58, 10, 74, 82, 32, 114, 52, 10, 59, 32, 110, 111, 98, 111, 100, 121, 32, 99, 97, 117, 103, 104, 116, 32, 105, 116, 10, 108, 111, 115, 116, 58, 10, 79, 85, 84, 32, 114, 48, 44, 32, 53, 10, 72, 65, 76, 84, 10, 115, 116, 97, 114, 116, 58, 10, 76, 85, 73, 32, 114, 49, 53, 44, 32, 48, 10, 79, 82, 73, 32, 114, 49, 53, 44, 32, 114, 49, 53, 44, 32, 48, 10, 76, 68, 73, 32, 114, 49, 51, 44, 32, 48, 10, 76, 68, 73, 32, 114, 48, 44, 32, 48]
def cl0 : Bs := [65, 68, 68, 73, 32, 114, 49, 53, 44, 32, 114, 49, 53, 44, 32, 45, 52]
def cl1 : Bs := [83, 84, 87, 32, 114, 48, 44, 32, 114, 49, 53, 44, 32, 48]
def cl2 : Bs := [87, 79, 82, 68, 32, 49, 55, 48, 48, 48, 48, 48, 48]
def cl3 : Bs := [76, 68, 73, 32, 114, 48, 44, 32, 48]
def haltT : Bs := [72, 65, 76, 84]
def callT : Bs := cl0 ++ 10 :: (cl1 ++ 10 :: (cl2 ++ 10 :: (cl3 ++ [10])))
def bodyT (n : Nat) : Bs := (List.replicate n callT).flatten ++ (haltT ++ [10])
def rtP : List T_asm_row × List T_asm_Label := match asmL [] [] 0 (cuts 10 srcA) with
  | .inl q => q
  | .inr _ => ([], [])
theorem rtP_eq : asmL [] [] 0 (cuts 10 srcA) = .inl (rtP.1, rtP.2) := by kernel_rfl
def rtW : List Int := match asmW rtP.2 0 rtP.1 [] with
  | .inl q => q
  | .inr _ => []
theorem rtW_eq : asmW rtP.2 0 rtP.1 [] = .inl rtW := by kernel_rfl
theorem rt_lens : ((cuts 10 srcA).length, rtP.1.length, rtW.length) = (54, 41, 41) := by kernel_rfl
theorem bodyT_succ (n : Nat) : bodyT (n + 1) = callT ++ bodyT n := by unfold bodyT; rw [List.replicate_succ, List.flatten_cons, List.append_assoc]
theorem no10 {f : Bs} (h : f.all (fun x => x != 10) = true) : ∀ x ∈ f, x ≠ 10 := by simpa using h
theorem cuts_call (r : Bs) : cuts 10 (callT ++ r) = cl0 :: cl1 :: cl2 :: cl3 :: cuts 10 r := by
  unfold callT
  simp only [List.append_assoc, List.cons_append, List.nil_append]
  rw [cuts_app (no10 (by decide)), cuts_app (no10 (by decide)), cuts_app (no10 (by decide)), cuts_app (no10 (by decide))]
theorem cuts_body : ∀ n : Nat, cuts 10 (bodyT n) = ((List.replicate n [cl0, cl1, cl2, cl3]).flatten ++ [haltT]) ++ [[]]
  | 0 => rfl
  | n + 1 => by rw [bodyT_succ, cuts_call, cuts_body n, List.replicate_succ, List.flatten_cons]; rfl
def rowOf (s : Bs) : Int × List ByteArray × Int := match parseL 0 s with
  | some x => (x.op_, x.fields_, x.word_)
  | none => (0, [], 0)
theorem pl0 : plainL cl0 (rowOf cl0).1 (rowOf cl0).2.1 (rowOf cl0).2.2 100663292 := ⟨by decide, by decide, by decide, fun n => by kernel_rfl, fun ls k n => by kernel_rfl⟩
theorem pl1 : plainL cl1 (rowOf cl1).1 (rowOf cl1).2.1 (rowOf cl1).2.2 319750144 := ⟨by decide, by decide, by decide, fun n => by kernel_rfl, fun ls k n => by kernel_rfl⟩
theorem pl2 : plainL cl2 (rowOf cl2).1 (rowOf cl2).2.1 (rowOf cl2).2.2 385875968 := ⟨by decide, by decide, by decide, fun n => by kernel_rfl, fun ls k n => by kernel_rfl⟩
theorem pl3 : plainL cl3 (rowOf cl3).1 (rowOf cl3).2.1 (rowOf cl3).2.2 33554432 := ⟨by decide, by decide, by decide, fun n => by kernel_rfl, fun ls k n => by kernel_rfl⟩
theorem plH : plainL haltT (rowOf haltT).1 (rowOf haltT).2.1 (rowOf haltT).2.2 16777216 := ⟨by decide, by decide, by decide, fun n => by kernel_rfl, fun ls k n => by kernel_rfl⟩
def callW : List Int := [100663292, 319750144, 385875968, 33554432]
theorem plains_call : Plains [cl0, cl1, cl2, cl3] [rowOf cl0, rowOf cl1, rowOf cl2, rowOf cl3] callW := .cons pl0 (.cons pl1 (.cons pl2 (.cons pl3 .nil)))
theorem plains_body : ∀ n : Nat, ∃ r, Plains ((List.replicate n [cl0, cl1, cl2, cl3]).flatten ++ [haltT]) r ((List.replicate n callW).flatten ++ [16777216])
  | 0 => ⟨_, .cons plH .nil⟩
  | n + 1 => by
    obtain ⟨r, hr⟩ := plains_body n
    exact ⟨_, by rw [List.replicate_succ, List.replicate_succ, List.flatten_cons, List.flatten_cons, List.append_assoc, List.append_assoc]; exact plains_call.app hr⟩
/-- its words -/
def rtAll (n : Nat) : List Int := rtW ++ ((List.replicate n callW).flatten ++ [16777216])
theorem rt_asm (n : Nat) (hn : n ≤ 64) : asmS (srcA ++ 10 :: bodyT n) = (rtAll n, rtP.2, 0, 0) := by
  obtain ⟨r, hr⟩ := plains_body n
  have hl := rt_lens
  simp only [Prod.mk.injEq] at hl
  have hlen : ((List.replicate n [cl0, cl1, cl2, cl3]).flatten ++ [haltT]).length = 4 * n + 1 := by
    rw [List.length_append, List.length_flatten, List.map_replicate, List.sum_replicate_nat]; simp; omega
  exact asmS_tail rfl (cuts_body n) rtP_eq rtW_eq hr (by rw [hlen]; omega) (by rw [hlen]; omega)
end Go.Proofs.Abs
/- What the runtime is built to. -/
namespace Go.Proofs.Abs
open Go
set_option linter.unusedVariables false
set_option linter.unusedSimpArgs false
set_option maxRecDepth 100000
theorem awake24 : law24_awake = some true := by
  unfold law24_awake runtime_Table
  have hl : loopO (fun (x : ((List Int) × Int)) => runtime_Table_L1 ([(T_api_Segment.mk 0 (-1)), (T_api_Segment.mk 5 9)] : List T_api_Segment) x.1 x.2) (([(IntKind.wrap .u32 ((([(T_api_Segment.mk 0 (-1)), (T_api_Segment.mk 5 9)] : List T_api_Segment).length : Nat) : Int))] : List Int), 0) = some [2, 0, 0, 20, 36] := loopO_of (k := 3) (by kernel_rfl)
  rw [hl, bind1_some, bind1_some, words_same _ (by decide)]; rfl
theorem src_L1 (p : Int) (n : Nat) (hp : (if (if 64 < p then 64 else p) > 0 then (if 64 < p then 64 else p) else 0) = (n : Int)) (hn : n ≤ 64) : ∀ (k i : Nat), i + k = n → loopO (fun (x : (ByteArray × Int)) => runtime_Source_L1 p x.1 x.2) (mkB (srcA ++ 10 :: (List.replicate i callT).flatten), (i : Int)) = some (mkB (srcA ++ 10 :: (List.replicate n callT).flatten))
  | 0, i, h => by
    have : i = n := by omega
    subst this
    refine loopO_out ?_
    unfold runtime_Source_L1
    dsimp only
    rw [hp, if_neg (by simp)]
  | k + 1, i, h => by
    have ec : (ByteArray.mk #[65, 68, 68, 73, 32, 114, 49, 53, 44, 32, 114, 49, 53, 44, 32, 45, 52, 10, 83, 84, 87, 32, 114, 48, 44, 32, 114, 49, 53, 44, 32, 48, 10, 87, 79, 82, 68, 32, 49, 55, 48, 48, 48, 48, 48, 48, 10, 76, 68, 73, 32, 114, 48, 44, 32, 48, 10]) = mkB callT := by kernel_rfl
    have hlen : (srcA ++ 10 :: (List.replicate i callT).flatten).length ≤ 100000 := by
      have h1 : srcA.length = 719 := by kernel_rfl
      have h2 : callT.length = 57 := by kernel_rfl
      rw [List.length_append, List.length_cons, List.length_flatten, List.map_replicate, List.sum_replicate_nat, h1, h2]; omega
    have h2 : callT.length = 57 := by kernel_rfl
    have hs : sCat (mkB (srcA ++ 10 :: (List.replicate i callT).flatten)) (mkB callT) = some (mkB (srcA ++ 10 :: (List.replicate (i + 1) callT).flatten)) := by
      rw [sCat_some (by rw [bs_mk, bs_mk, h2]; omega), bs_mk, bs_mk, List.replicate_succ', List.flatten_append, List.append_assoc, List.cons_append]; simp
    have step : runtime_Source_L1 p (mkB (srcA ++ 10 :: (List.replicate i callT).flatten)) (i : Int) = some (.inl (mkB (srcA ++ 10 :: (List.replicate (i + 1) callT).flatten), ((i + 1 : Nat) : Int))) := by
      unfold runtime_Source_L1
      rw [hp, if_pos (by simp; omega), ec, hs, bind1_some, wr64 i (by omega)]
    rw [loopO_go (s' := (mkB (srcA ++ 10 :: (List.replicate (i + 1) callT).flatten), ((i + 1 : Nat) : Int))) step]
    exact src_L1 p n hp hn k (i + 1) (by omega)
theorem src_len (n : Nat) (hn : n ≤ 64) : (srcA ++ 10 :: bodyT n).length ≤ 100000 := by
  have h1 : srcA.length = 719 := by kernel_rfl
  have h2 : callT.length = 57 := by kernel_rfl
  have h3 : haltT.length = 4 := by kernel_rfl
  unfold bodyT
  rw [List.length_append, List.length_cons, List.length_append, List.length_flatten, List.map_replicate, List.sum_replicate_nat, List.length_append, h1, h2, h3]; simp; omega
theorem source_eq (n : Nat) (hn : n ≤ 64) : runtime_Source (n : Int) = some (mkB (srcA ++ 10 :: bodyT n)) := by
  unfold runtime_Source
  have hp : (if (if 64 < (n : Int) then 64 else (n : Int)) > 0 then (if 64 < (n : Int) then 64 else (n : Int)) else 0) = (n : Int) := by split <;> split <;> omega
  have hl := src_L1 (n : Int) n hp hn n 0 (by omega)
  have e0 : mkB (srcA ++ 10 :: (List.replicate 0 callT).flatten) = (ByteArray.mk #[59, 32, 119, 104, 97, 116, 32, 105, 115, 32, 114, 97, 105, 115, 101, 100, 44, 32, 97, 110, 100, 32, 119, 104, 101, 114, 101, 10, 118, 101, 99, 116, 111, 114, 58, 10, 82, 84, 67, 32, 114, 48, 44, 32, 49, 10, 82, 84, 67, 32, 114, 49, 44, 32, 48, 10, 79, 85, 84, 32, 114, 48, 44, 32, 50, 10, 59, 32, 116, 104, 101, 32, 116, 97, 98, 108, 101, 32, 111, 102, 32, 115, 101, 103, 109, 101, 110, 116, 115, 10, 110, 101, 120, 116, 58, 10, 76, 85, 73, 32, 114, 54, 44, 32, 48, 10, 79, 82, 73, 32, 114, 54, 44, 32, 114, 54, 44, 32, 48, 10, 76, 68, 87, 32, 114, 51, 44, 32, 114, 54, 44, 32, 48, 10, 65, 68, 68, 73, 32, 114, 54, 44, 32, 114, 54, 44, 32, 52, 10, 76, 68, 73, 32, 114, 50, 44, 32, 48, 10, 59, 32, 116, 104, 101, 32, 108, 97, 115, 116, 32, 111, 110, 101, 32, 116, 104, 97, 116, 32, 98, 101, 103, 105, 110, 115, 32, 97, 116, 32, 111, 114, 32, 97, 104, 101, 97, 100, 32, 111, 102, 32, 105, 116, 10, 115, 101, 97, 114, 99, 104, 58, 10, 83, 85, 66, 32, 114, 52, 44, 32, 114, 51, 44, 32, 114, 50, 10, 76, 68, 73, 32, 114, 53, 44, 32, 49, 10, 83, 76, 69, 32, 114, 53, 44, 32, 114, 52, 44, 32, 114, 53, 10, 66, 78, 90, 32, 114, 53, 44, 32, 102, 111, 117, 110, 100, 10, 65, 68, 68, 32, 114, 52, 44, 32, 114, 50, 44, 32, 114, 51, 10, 76, 68, 73, 32, 114, 53, 44, 32, 50, 10, 68, 73, 86, 32, 114, 52, 44, 32, 114, 52, 44, 32, 114, 53, 10, 76, 68, 73, 32, 114, 53, 44, 32, 56, 10, 77, 85, 76, 32, 114, 53, 44, 32, 114, 52, 44, 32, 114, 53, 10, 65, 68, 68, 32, 114, 53, 44, 32, 114, 53, 44, 32, 114, 54, 10, 76, 68, 87, 32, 114, 53, 44, 32, 114, 53, 44, 32, 48, 10, 83, 76, 69, 32, 114, 53, 44, 32, 114, 53, 44, 32, 114, 49, 10, 66, 90, 32, 114, 53, 44, 32, 117, 112, 112, 101, 114, 10, 65, 68, 68, 73, 32, 114, 50, 44, 32, 114, 52, 44, 32, 48, 10, 66, 82, 32, 115, 101, 97, 114, 99, 104, 10, 117, 112, 112, 101, 114, 58, 10, 65, 68, 68, 73, 32, 114, 51, 44, 32, 114, 52, 44, 32, 48, 10, 66, 82, 32, 115, 101, 97, 114, 99, 104, 10, 102, 111, 117, 110, 100, 58, 10, 76, 68, 73, 32, 114, 53, 44, 32, 56, 10, 77, 85, 76, 32, 114, 53, 44, 32, 114, 50, 44, 32, 114, 53, 10, 65, 68, 68, 32, 114, 53, 44, 32, 114, 53, 44, 32, 114, 54, 10, 76, 68, 87, 32, 114, 52, 44, 32, 114, 53, 44, 32, 52, 10, 66, 78, 90, 32, 114, 52, 44, 32, 112, 97, 100, 10, 59, 32, 110, 111, 110, 101, 58, 32, 105, 116, 32, 103, 111, 101, 115, 32, 111, 110, 32, 119, 104, 101, 114, 101, 32, 116, 104, 105, 115, 32, 119, 97, 115, 32, 99, 97, 108, 108, 101, 100, 10, 76, 68, 87, 32, 114, 49, 44, 32, 114, 49, 51, 44, 32, 52, 10, 65, 68, 68, 73, 32, 114, 49, 44, 32, 114, 49, 44, 32, 45, 52, 10, 76, 68, 87, 32, 114, 49, 51, 44, 32, 114, 49, 51, 44, 32, 48, 10, 66, 82, 32, 110, 101, 120, 116, 10, 112, 97, 100, 58, 10, 74, 82, 32, 114, 52, 10, 59, 32, 110, 111, 98, 111, 100, 121, 32, 99, 97, 117, 103, 104, 116, 32, 105, 116, 10, 108, 111, 115, 116, 58, 10, 79, 85, 84, 32, 114, 48, 44, 32, 53, 10, 72, 65, 76, 84, 10, 115, 116, 97, 114, 116, 58, 10, 76, 85, 73, 32, 114, 49, 53, 44, 32, 48, 10, 79, 82, 73, 32, 114, 49, 53, 44, 32, 114, 49, 53, 44, 32, 48, 10, 76, 68, 73, 32, 114, 49, 51, 44, 32, 48, 10, 76, 68, 73, 32, 114, 48, 44, 32, 48, 10]) := by kernel_rfl
  rw [e0] at hl
  have hl : loopO (fun (x : (ByteArray × Int)) => runtime_Source_L1 (n : Int) x.1 x.2) ((ByteArray.mk #[59, 32, 119, 104, 97, 116, 32, 105, 115, 32, 114, 97, 105, 115, 101, 100, 44, 32, 97, 110, 100, 32, 119, 104, 101, 114, 101, 10, 118, 101, 99, 116, 111, 114, 58, 10, 82, 84, 67, 32, 114, 48, 44, 32, 49, 10, 82, 84, 67, 32, 114, 49, 44, 32, 48, 10, 79, 85, 84, 32, 114, 48, 44, 32, 50, 10, 59, 32, 116, 104, 101, 32, 116, 97, 98, 108, 101, 32, 111, 102, 32, 115, 101, 103, 109, 101, 110, 116, 115, 10, 110, 101, 120, 116, 58, 10, 76, 85, 73, 32, 114, 54, 44, 32, 48, 10, 79, 82, 73, 32, 114, 54, 44, 32, 114, 54, 44, 32, 48, 10, 76, 68, 87, 32, 114, 51, 44, 32, 114, 54, 44, 32, 48, 10, 65, 68, 68, 73, 32, 114, 54, 44, 32, 114, 54, 44, 32, 52, 10, 76, 68, 73, 32, 114, 50, 44, 32, 48, 10, 59, 32, 116, 104, 101, 32, 108, 97, 115, 116, 32, 111, 110, 101, 32, 116, 104, 97, 116, 32, 98, 101, 103, 105, 110, 115, 32, 97, 116, 32, 111, 114, 32, 97, 104, 101, 97, 100, 32, 111, 102, 32, 105, 116, 10, 115, 101, 97, 114, 99, 104, 58, 10, 83, 85, 66, 32, 114, 52, 44, 32, 114, 51, 44, 32, 114, 50, 10, 76, 68, 73, 32, 114, 53, 44, 32, 49, 10, 83, 76, 69, 32, 114, 53, 44, 32, 114, 52, 44, 32, 114, 53, 10, 66, 78, 90, 32, 114, 53, 44, 32, 102, 111, 117, 110, 100, 10, 65, 68, 68, 32, 114, 52, 44, 32, 114, 50, 44, 32, 114, 51, 10, 76, 68, 73, 32, 114, 53, 44, 32, 50, 10, 68, 73, 86, 32, 114, 52, 44, 32, 114, 52, 44, 32, 114, 53, 10, 76, 68, 73, 32, 114, 53, 44, 32, 56, 10, 77, 85, 76, 32, 114, 53, 44, 32, 114, 52, 44, 32, 114, 53, 10, 65, 68, 68, 32, 114, 53, 44, 32, 114, 53, 44, 32, 114, 54, 10, 76, 68, 87, 32, 114, 53, 44, 32, 114, 53, 44, 32, 48, 10, 83, 76, 69, 32, 114, 53, 44, 32, 114, 53, 44, 32, 114, 49, 10, 66, 90, 32, 114, 53, 44, 32, 117, 112, 112, 101, 114, 10, 65, 68, 68, 73, 32, 114, 50, 44, 32, 114, 52, 44, 32, 48, 10, 66, 82, 32, 115, 101, 97, 114, 99, 104, 10, 117, 112, 112, 101, 114, 58, 10, 65, 68, 68, 73, 32, 114, 51, 44, 32, 114, 52, 44, 32, 48, 10, 66, 82, 32, 115, 101, 97, 114, 99, 104, 10, 102, 111, 117, 110, 100, 58, 10, 76, 68, 73, 32, 114, 53, 44, 32, 56, 10, 77, 85, 76, 32, 114, 53, 44, 32, 114, 50, 44, 32, 114, 53, 10, 65, 68, 68, 32, 114, 53, 44, 32, 114, 53, 44, 32, 114, 54, 10, 76, 68, 87, 32, 114, 52, 44, 32, 114, 53, 44, 32, 52, 10, 66, 78, 90, 32, 114, 52, 44, 32, 112, 97, 100, 10, 59, 32, 110, 111, 110, 101, 58, 32, 105, 116, 32, 103, 111, 101, 115, 32, 111, 110, 32, 119, 104, 101, 114, 101, 32, 116, 104, 105, 115, 32, 119, 97, 115, 32, 99, 97, 108, 108, 101, 100, 10, 76, 68, 87, 32, 114, 49, 44, 32, 114, 49, 51, 44, 32, 52, 10, 65, 68, 68, 73, 32, 114, 49, 44, 32, 114, 49, 44, 32, 45, 52, 10, 76, 68, 87, 32, 114, 49, 51, 44, 32, 114, 49, 51, 44, 32, 48, 10, 66, 82, 32, 110, 101, 120, 116, 10, 112, 97, 100, 58, 10, 74, 82, 32, 114, 52, 10, 59, 32, 110, 111, 98, 111, 100, 121, 32, 99, 97, 117, 103, 104, 116, 32, 105, 116, 10, 108, 111, 115, 116, 58, 10, 79, 85, 84, 32, 114, 48, 44, 32, 53, 10, 72, 65, 76, 84, 10, 115, 116, 97, 114, 116, 58, 10, 76, 85, 73, 32, 114, 49, 53, 44, 32, 48, 10, 79, 82, 73, 32, 114, 49, 53, 44, 32, 114, 49, 53, 44, 32, 48, 10, 76, 68, 73, 32, 114, 49, 51, 44, 32, 48, 10, 76, 68, 73, 32, 114, 48, 44, 32, 48, 10]), 0) = _ := hl
  rw [hl, bind1_some]
  have eh : (ByteArray.mk #[72, 65, 76, 84, 10]) = mkB (haltT ++ [10]) := by kernel_rfl
  have hlen := src_len n hn
  unfold bodyT at hlen ⊢
  rw [eh, sCat_some (by rw [bs_mk, bs_mk]; simp at hlen ⊢; omega), bs_mk, bs_mk, List.append_assoc, List.cons_append, bind1_some]
def callsS (n : Nat) : List Int := (List.range n).map fun i => ((43 + 4 * i : Nat) : Int)
theorem build_L1 (n : Nat) (hn : n ≤ 64) (W : List Int) : ∀ (k i : Nat), i + k = n → loopO (fun (x : (Int × T_runtime_Image)) => runtime_Build_L1 (n : Int) x.1 x.2) ((i : Int), (⟨W, 3, 37, callsS i, 35, 37⟩ : T_runtime_Image)) = some ⟨W, 3, 37, callsS n, 35, 37⟩
  | 0, i, h => by
    have : i = n := by omega
    subst this
    refine loopO_out ?_
    unfold runtime_Build_L1
    dsimp only
    rw [if_neg (by simp)]
  | k + 1, i, h => by
    have hl : (callsS i).length = i := by simp [callsS]
    have step : runtime_Build_L1 (n : Int) (i : Int) ⟨W, 3, 37, callsS i, 35, 37⟩ = some (.inl (((i + 1 : Nat) : Int), (⟨W, 3, 37, callsS (i + 1), 35, 37⟩ : T_runtime_Image))) := by
      unfold runtime_Build_L1
      dsimp only
      rw [if_pos (by simp; omega), app_some (by rw [hl]; simp; omega), bind1_some, wr64 i (by omega), wrap_i64 (37 + 4) (by decide) (by decide), wrap_i64 (4 * (i : Int)) (by omega) (by omega), wrap_i64 (37 + 4 + 4 * (i : Int)) (by omega) (by omega), wrap_i64 _ (by omega) (by omega)]
      have : callsS i ++ [37 + 4 + 4 * (i : Int) + 2] = callsS (i + 1) := by
        unfold callsS
        rw [List.range_succ, List.map_append]
        have e : (37 + 4 + 4 * (i : Int) + 2) = ((43 + 4 * i : Nat) : Int) := by omega
        rw [e]; rfl
      rw [this]
    rw [loopO_go (s' := (((i + 1 : Nat) : Int), (⟨W, 3, 37, callsS (i + 1), 35, 37⟩ : T_runtime_Image))) step]
    exact build_L1 n hn W k (i + 1) (by omega)
theorem ats : (atS [110, 101, 120, 116] rtP.2, atS [115, 116, 97, 114, 116] rtP.2, atS [108, 111, 115, 116] rtP.2, rtP.2.length) = (3, 37, 35, 8) := by kernel_rfl
theorem build_eq (n : Nat) (hn : n ≤ 64) : runtime_Build (n : Int) = some (⟨rtAll n, 3, 37, callsS n, 35, 37⟩, 0) := by
  unfold runtime_Build
  have ha := ats
  simp only [Prod.mk.injEq] at ha
  obtain ⟨a1, a2, a3, a4⟩ := ha
  have at_ := fun (name : Bs) => asm_At_eq ⟨rtAll n, rtP.2⟩ (mkB name) (by show rtP.2.length < _; rw [a4]; decide)
  have t1 : asm_Unit_At ⟨rtAll n, rtP.2⟩ { data := #[110, 101, 120, 116] } = some 3 := (at_ [110, 101, 120, 116]).trans (by rw [bs_mk, a1])
  have t2 : asm_Unit_At ⟨rtAll n, rtP.2⟩ { data := #[115, 116, 97, 114, 116] } = some 37 := (at_ [115, 116, 97, 114, 116]).trans (by rw [bs_mk, a2])
  have t3 : asm_Unit_At ⟨rtAll n, rtP.2⟩ { data := #[108, 111, 115, 116] } = some 35 := (at_ [108, 111, 115, 116]).trans (by rw [bs_mk, a3])
  have hl := build_L1 n hn (rtAll n) n 0 (by omega)
  have hl : loopO (fun (x : (Int × T_runtime_Image)) => runtime_Build_L1 (n : Int) x.1 x.2) (0, (T_runtime_Image.mk (rtAll n) 3 37 ([] : List Int) 35 37)) = _ := hl
  rw [if_neg (by simp; omega), source_eq n hn, bind1_some, asm_eq _ (by rw [size_mk]; have := src_len n hn; omega), bs_mk, rt_asm n hn, bind3_some]
  dsimp only
  rw [if_neg (by decide), t1, bind1_some, t2, bind1_some, t3, bind1_some, bind1_some, hl, bind1_some]
theorem rtAll_len (n : Nat) : (rtAll n).length = 42 + 4 * n := by
  have h := rt_lens
  simp only [Prod.mk.injEq] at h
  unfold rtAll
  rw [List.length_append, List.length_append, List.length_flatten, List.map_replicate, List.sum_replicate_nat, h.2.2]; simp [callW]; omega
theorem among_ok (n : Nat) (hn : n ≤ 64) : law24_among ⟨rtAll n, 3, 37, callsS n, 35, 37⟩ (n : Int) = some true := by
  unfold law24_among
  have hl : (callsS n).length = n := by simp [callsS]
  have hw := rtAll_len n
  rw [wrap_i64 (3 + 1) (by decide) (by decide), wrap_i64 (37 + 1) (by decide) (by decide)]
  dsimp only
  rw [hl, hw, if_neg (by simp; omega)]
  have hL := loop_all (xs := callsS n) (f := fun (x : (Int × Int)) => law24_among_L1 ⟨rtAll n, 3, 37, callsS n, 35, 37⟩ x.1 x.2) (fun (a : Int) i => (a, (i : Int))) (fun i a x => .inl x) (fun _ => (.inl () : Unit ⊕ Unit)) (fun i a => a ≤ 39 + 4 * (i : Int)) 37 (by decide)
    (fun i x a hx hP => by
      have hil := len_of hx
      rw [hl] at hil
      have hxv : x = ((43 + 4 * i : Nat) : Int) := by
        unfold callsS at hx
        rw [List.getElem?_map, List.getElem?_range hil] at hx
        cases hx; rfl
      unfold law24_among_L1
      dsimp only
      rw [i_lt hx, if_pos rfl, gi_nat hx, bind1_some, if_neg (by simp; omega), bind1_some, bind1_some, if_neg (by rw [hw]; simp; omega), bind1_some, wr64 i (by omega)])
    (fun i x a a' hx hP hg => by
      cases hg
      have hil := len_of hx
      rw [hl] at hil
      unfold callsS at hx
      rw [List.getElem?_map, List.getElem?_range hil] at hx
      cases hx
      show ((43 + 4 * i : Nat) : Int) ≤ 39 + 4 * ((i + 1 : Nat) : Int)
      omega)
    (fun a _ => by unfold law24_among_L1; dsimp only; rw [i_ge, if_neg (by decide)])
  have hL : loopO (fun (x : (Int × Int)) => law24_among_L1 ⟨rtAll n, 3, 37, callsS n, 35, 37⟩ x.1 x.2) (37, 0) = _ := hL
  have e : ∀ (l : List Int) (i : Nat) (a : Int), runG (fun (i : Nat) (a x : Int) => (.inl x : Int ⊕ (Unit ⊕ Unit))) (fun _ => (.inl () : Unit ⊕ Unit)) i a l = .inl () := by
    intro l
    induction l with
    | nil => intro i a; rfl
    | cons x l ih => intro i a; exact ih _ _
  rw [hL, e]; rfl
end Go.Proofs.Abs
/- What a word is, reckoned: the document's decoding without its loop. -/
namespace Go.Proofs.Abs
open Go
set_option linter.unusedVariables false
set_option linter.unusedSimpArgs false
theorem power_spec (n : Nat) (hn : n ≤ 32) : ref01_Power (n : Int) = some (2 ^ n) := by
  have go : ∀ (k : Nat) (a j : Int), j + k = n → 0 ≤ j → 0 ≤ a → a * 2 ^ k ≤ 4294967296 → loopO (fun (x : Int × Int) => ref01_Power_L1 (n : Int) x.1 x.2) (a, j) = some (a * 2 ^ k) := by
    intro k
    induction k with
    | zero =>
      intro a j h1 h2 h3 h4
      obtain rfl : j = n := by omega
      refine loopO_out ?_
      show ref01_Power_L1 (n : Int) a n = _
      unfold ref01_Power_L1; rw [if_neg (by simp)]; simp
    | succ k ih =>
      intro a j h1 h2 h3 h4
      have e : a * 2 ^ (k + 1) = a * 2 * 2 ^ k := by rw [Int.pow_succ, Int.mul_comm (2 ^ k) 2, ← Int.mul_assoc]
      have p : (1 : Int) ≤ 2 ^ k := Int.pow_pos (by decide)
      have le : a * 2 ≤ 4294967296 := by
        rw [e] at h4
        have := Int.mul_le_mul_of_nonneg_left p (show 0 ≤ a * 2 by omega)
        omega
      rw [loopO_go (f := fun (x : Int × Int) => ref01_Power_L1 (n : Int) x.1 x.2) (s' := (a * 2, j + 1))]
      · rw [ih (a * 2) (j + 1) (by omega) (by omega) (by omega) (by rw [← e]; exact h4), e]
      · show ref01_Power_L1 (n : Int) a j = _
        unfold ref01_Power_L1
        rw [if_pos (by simp; omega), wrap_i64 _ (by omega) (by omega), wrap_i64 _ (by omega) (by omega)]
  unfold ref01_Power
  have p : (2 : Int) ^ n ≤ 4294967296 := by
    have : (2 : Nat) ^ n ≤ 2 ^ 32 := Nat.pow_le_pow_right (by decide) hn
    have e : ((2 : Int) ^ n) = ((2 ^ n : Nat) : Int) := by simp
    rw [e]; exact Int.ofNat_le.2 this
  have := go n 1 0 (by omega) (by omega) (by omega) (by rw [Int.one_mul]; exact p)
  rw [this]; simp [bind1_some]
noncomputable def sextC (w k : Int) : Option Int := bind1 (remI .i64 (IntKind.wrap .i64 w) (2 ^ k.toNat)) fun v4 =>
  if (decide (v4 ≥ (IntKind.wrap .i64 (Int.tdiv (2 ^ k.toNat) 2)))) = true then (ref01_Sext_j1 (IntKind.wrap .i64 (v4 - 2 ^ k.toNat)))
  else (ref01_Sext_j1 v4)
theorem sext_eq (w : Int) (k : Nat) (h0 : 1 ≤ k) (hk : k ≤ 32) : ref01_Sext w k = sextC w k := by
  unfold ref01_Sext
  rw [if_neg (by simp; omega)]
  have : (if (32 : Int) < k then (32 : Int) else k) = k := by rw [if_neg (by omega)]
  rw [this, power_spec k hk, bind1_some]; rfl
theorem sext16 (w : Int) : ref01_Sext w 16 = sextC w 16 := sext_eq w 16 (by decide) (by decide)
theorem sext24 (w : Int) : ref01_Sext w 24 = sextC w 24 := sext_eq w 24 (by decide) (by decide)
noncomputable def decC_j5 (p0 : Int) (j15 : T_ref02_Instr) : Option (T_ref02_Instr × Int) :=
  bind2 (ref02_Encode j15) fun r17 r18 =>
  if ((r18 != 0) || (r17 != p0)) = true then (some ((T_ref02_Instr.mk 0 0 0 0 0), 21))
  else (some (j15, 0))
noncomputable def decC_j6 (p0 : Int) (j11 : T_ref02_Instr) (r1 : Int) (j23 : Bool) : Option (T_ref02_Instr × Int) :=
  if j23 = true then (decC_j5 p0 (T_ref02_Instr.mk j11.Op_ j11.A_ j11.B_ j11.C_ (IntKind.wrap .i64 (Int.tmod p0 65536))))
  else (if (r1 == 7) = true then (bind1 (sextC p0 24) fun r25 =>
  decC_j5 p0 (T_ref02_Instr.mk j11.Op_ j11.A_ j11.B_ j11.C_ (IntKind.wrap .i64 r25)))
  else (decC_j5 p0 j11))
noncomputable def decC_j4 (p0 : Int) (j11 : T_ref02_Instr) (r1 : Int) (j13 : Bool) : Option (T_ref02_Instr × Int) :=
  if j13 = true then (bind1 (sextC p0 16) fun r21 =>
  decC_j5 p0 (T_ref02_Instr.mk j11.Op_ j11.A_ j11.B_ j11.C_ (IntKind.wrap .i64 r21)))
  else (if (r1 == 2) = true then (decC_j6 p0 j11 r1 (r1 == 2))
  else (if (r1 == 4) = true then (decC_j6 p0 j11 r1 (r1 == 4))
  else (decC_j6 p0 j11 r1 (r1 == 8))))
noncomputable def decC_j3 (r1 : Int) (p0 : Int) (j11 : T_ref02_Instr) : Option (T_ref02_Instr × Int) :=
  if (r1 == 1) = true then (decC_j4 p0 j11 r1 (r1 == 1))
  else (decC_j4 p0 j11 r1 (r1 == 3))
noncomputable def decC_j2 (r5 : Bool) (r1 : Int) (p0 : Int) (j9 : T_ref02_Instr) : Option (T_ref02_Instr × Int) :=
  if r5 = true then (decC_j3 r1 p0 (T_ref02_Instr.mk j9.Op_ j9.A_ j9.B_ (IntKind.wrap .i64 (Int.tmod p0 16)) j9.Imm_))
  else (decC_j3 r1 p0 j9)
noncomputable def decC_j1 (r4 : Bool) (r5 : Bool) (r1 : Int) (p0 : Int) (j7 : T_ref02_Instr) : Option (T_ref02_Instr × Int) :=
  if r4 = true then (decC_j2 r5 r1 p0 (T_ref02_Instr.mk j7.Op_ j7.A_ (IntKind.wrap .i64 (Int.tmod (IntKind.wrap .u32 (Int.tdiv p0 65536)) 16)) j7.C_ j7.Imm_))
  else (decC_j2 r5 r1 p0 j7)
noncomputable def decC  (p0 : Int) : Option (T_ref02_Instr × Int) :=
  bind1 (ref02_Shape (IntKind.wrap .i64 (IntKind.wrap .u32 (Int.tdiv p0 16777216)))) fun r1 =>
  bind3 (ref02_has r1) fun r3 r4 r5 =>
  if r3 = true then (decC_j1 r4 r5 r1 p0 (T_ref02_Instr.mk (IntKind.wrap .i64 (IntKind.wrap .u32 (Int.tdiv p0 16777216))) (IntKind.wrap .i64 (Int.tmod (IntKind.wrap .u32 (Int.tdiv p0 1048576)) 16)) 0 0 0))
  else (decC_j1 r4 r5 r1 p0 (T_ref02_Instr.mk (IntKind.wrap .i64 (IntKind.wrap .u32 (Int.tdiv p0 16777216))) 0 0 0 0))
theorem decC_j5_eq (p0 : Int) (j15 : T_ref02_Instr) : ref02_Decode_j5 p0 j15 = decC_j5 p0 j15 := by
  unfold ref02_Decode_j5 decC_j5
  simp only [sext16, sext24]
theorem decC_j6_eq (p0 : Int) (j11 : T_ref02_Instr) (r1 : Int) (j23 : Bool) : ref02_Decode_j6 p0 j11 r1 j23 = decC_j6 p0 j11 r1 j23 := by
  unfold ref02_Decode_j6 decC_j6
  simp only [sext16, sext24, decC_j5_eq]
theorem decC_j4_eq (p0 : Int) (j11 : T_ref02_Instr) (r1 : Int) (j13 : Bool) : ref02_Decode_j4 p0 j11 r1 j13 = decC_j4 p0 j11 r1 j13 := by
  unfold ref02_Decode_j4 decC_j4
  simp only [sext16, sext24, decC_j5_eq, decC_j6_eq]
theorem decC_j3_eq (r1 : Int) (p0 : Int) (j11 : T_ref02_Instr) : ref02_Decode_j3 r1 p0 j11 = decC_j3 r1 p0 j11 := by
  unfold ref02_Decode_j3 decC_j3
  simp only [sext16, sext24, decC_j5_eq, decC_j6_eq, decC_j4_eq]
theorem decC_j2_eq (r5 : Bool) (r1 : Int) (p0 : Int) (j9 : T_ref02_Instr) : ref02_Decode_j2 r5 r1 p0 j9 = decC_j2 r5 r1 p0 j9 := by
  unfold ref02_Decode_j2 decC_j2
  simp only [sext16, sext24, decC_j5_eq, decC_j6_eq, decC_j4_eq, decC_j3_eq]
theorem decC_j1_eq (r4 : Bool) (r5 : Bool) (r1 : Int) (p0 : Int) (j7 : T_ref02_Instr) : ref02_Decode_j1 r4 r5 r1 p0 j7 = decC_j1 r4 r5 r1 p0 j7 := by
  unfold ref02_Decode_j1 decC_j1
  simp only [sext16, sext24, decC_j5_eq, decC_j6_eq, decC_j4_eq, decC_j3_eq, decC_j2_eq]
theorem decC_eq (p0 : Int) : ref02_Decode p0 = decC p0 := by
  unfold ref02_Decode decC
  simp only [sext16, sext24, decC_j5_eq, decC_j6_eq, decC_j4_eq, decC_j3_eq, decC_j2_eq, decC_j1_eq]
end Go.Proofs.Abs
/- The document's machine on the runtime's words. -/
namespace Go.Proofs.Abs
open Go
set_option linter.unusedVariables false
set_option linter.unusedSimpArgs false
set_option maxRecDepth 100000
theorem u_room : 1048576 ≤ roomBytes := Nat.le_of_ble_eq_true (by kernel_rfl)
theorem u_with_loop (p2 : List Int) (k : Nat) : ∀ (n : Nat) (p1 : Int) (a5 : List Int) (a6 : Int), 0 ≤ a6 → a6 + n = p2.length → 0 ≤ p1 → p1 + p2.length ≤ a5.length → (a5.length : Int) ≤ 4294967295 →
    loopO (fun (x : List Int × Int) => ref03_with_L1 p2 p1 x.1 x.2) (a5, a6) = some (setAt a5 (p1 + a6).toNat (p2.drop a6.toNat))
  | 0, p1, a5, a6, h0, h1, h2, h3, h4 => by
    rw [loopO_out (r := a5)]
    · have : p2.drop a6.toNat = [] := List.drop_eq_nil_of_le (by omega)
      rw [this]
      simp [setAt]
    · show ref03_with_L1 p2 p1 a5 a6 = _
      unfold ref03_with_L1
      have c : (decide (a6 < (p2.length : Int))) = false := by simp; omega
      simp [c]
  | n + 1, p1, a5, a6, h0, h1, h2, h3, h4 => by
    have hlt : a6 < p2.length := by omega
    have e : ref03_with_L1 p2 p1 a5 a6 = some (.inl (a5.set (p1 + a6).toNat (p2[a6.toNat]'(by omega)), a6 + 1)) := by
      unfold ref03_with_L1
      have c : (decide (a6 < (p2.length : Int))) = true := by simp; omega
      rw [if_pos c, gi_some h0 hlt, bind1_some, wrap_i64 (p1 + a6) (by omega) (by omega), gi_some (by omega) (by omega), bind1_some, si_some (by omega) (by omega), bind1_some, wrap_i64 (a6 + 1) (by omega) (by omega)]
    rw [loopO_go (s' := (a5.set (p1 + a6).toNat (p2[a6.toNat]'(by omega)), a6 + 1)) e]
    rw [u_with_loop p2 k n p1 _ (a6 + 1) (by omega) (by omega) h2 (by simpa using h3) (by simpa using h4)]
    congr 1
    have e1 : (p1 + (a6 + 1)).toNat = (p1 + a6).toNat + 1 := by omega
    have e2 : (a6 + 1).toNat = a6.toNat + 1 := by omega
    have e3 : p2.drop a6.toNat = p2[a6.toNat]'(by omega) :: p2.drop (a6.toNat + 1) := by rw [List.drop_eq_getElem_cons]
    rw [e1, e2, e3]
    apply List.ext_getElem?
    intro j
    simp only [setAt, List.getElem?_append, List.length_append, List.length_take, List.getElem?_take, List.getElem?_drop, List.length_drop, List.length_set, List.getElem?_set, List.length_cons, List.getElem?_cons]
    grind
theorem u_with {ws : List Int} {E : Arr 5 Int} (p1 : Int) (p2 : List Int) (h0 : 0 ≤ p1) (h1 : p1 + p2.length ≤ ws.length) (h2 : ws.length ≤ 262144) : ref03_with ⟨E, ws⟩ p1 p2 = some ⟨E, setAt ws p1.toNat p2⟩ := by
  unfold ref03_with
  have hm : mks 4 (ws.length : Int) (ws.length : Int) (0 : Int) = some (List.replicate ws.length 0) := by
    unfold mks
    rw [if_pos ⟨by omega, by omega, by simp [roomBytes]; omega, by omega⟩]
    simp
  simp only [hm, bind1_some]
  have hc : cpy (List.replicate ws.length (0 : Int)) 0 ws = ws := by
    simp [cpy, setAt]
  rw [hc, u_with_loop p2 0 p2.length p1 ws 0 (by omega) (by omega) h0 h1 (by omega), bind1_some]
  simp

theorem u_fill {E : Arr 5 Int} {W l : List Int} (k : Nat) (hk : k + l.length ≤ W.length) (hW : W.length ≤ 20000) : ref03_Fill ⟨E, W⟩ (4 * (k : Int)) l = some (⟨E, setAt W k l⟩, 0) := by
  unfold ref03_Fill
  simp only [tmod_pos (show 0 ≤ 4 * (k : Int) by omega), tdiv_pos (show 0 ≤ 4 * (k : Int) by omega)]
  have e1 : 4 * (k : Int) % 4 = 0 := by omega
  have e2 : 4 * (k : Int) / 4 = (k : Int) := by omega
  rw [e1, e2, wrap_u32 (k : Int) (by omega) (by omega), wrap_i64 (k : Int) (by omega) (by omega), wrap_i64 _ (by omega) (by omega), if_neg (by simp), if_neg (by simp; omega), u_with (k : Int) l (by omega) (by omega) (by omega), bind1_some]
  simp

/-! what is loaded, and fetched -/
theorem u_load {E : Arr 5 Int} {W : List Int} {k : Nat} {w p : Int} (hp : p = 4 * (k : Int)) (hL : W.length ≤ 20000) (hw : W[k]? = some w) : ref03_Load ⟨E, W⟩ p = some (w, 0) := by
  subst hp
  have hl : k < W.length := (List.getElem?_eq_some_iff.1 hw).1
  unfold ref03_Load
  simp only [tmod_pos (show 0 ≤ 4 * (k : Int) by omega), tdiv_pos (show 0 ≤ 4 * (k : Int) by omega)]
  have e1 : 4 * (k : Int) % 4 = 0 := by omega
  have e2 : 4 * (k : Int) / 4 = (k : Int) := by omega
  rw [e1, e2, wrap_u32 (k : Int) (by omega) (by omega), wrap_i64 (k : Int) (by omega) (by omega), if_neg (by simp), if_neg (by simp; omega), gi_nat hw, bind1_some]
theorem u_fetch {E : Arr 5 Int} {W : List Int} {k : Nat} {w p : Int} (hp : p = 4 * (k : Int)) (hE : E.g 0 = 968) (hk : k < 242) (hL : W.length ≤ 20000) (hw : W[k]? = some w) : ref03_Fetch ⟨E, W⟩ p = some (w, 0) := by
  unfold ref03_Fetch
  rw [u_load hp hL hw, bind2_some, if_neg (by simp only [hE]; simp; omega)]
def tick (c : T_ref04_Cpu) : T_ref04_Cpu := ⟨c.R_, c.PC_, c.EPC_, c.Cause_, c.State_, c.Why_, IntKind.wrap .i64 (c.Steps_ + 1), c.Taken_, c.Out_, c.Entry_, c.Vector_, c.Guard_, c.Limit_, c.Input_⟩
theorem u_step {E : Arr 5 Int} {W : List Int} {c c' : T_ref04_Cpu} {x : T_ref02_Instr} {w : Int} {k : Nat} (h0 : c.State_ = 0) (hp : c.PC_ = 4 * (k : Int)) (hE : E.g 0 = 968) (hk : k < 242) (hL : W.length ≤ 20000) (hw : W[k]? = some w) (hd : decC w = some (x, 0)) (h3 : ref04_do (tick c) ⟨E, W⟩ x = some (c', ⟨E, W⟩)) : ref04_Step c ⟨E, W⟩ = some (c', ⟨E, W⟩) := by
  unfold ref04_Step
  rw [if_neg (by simp [h0]), u_fetch hp hE hk hL hw, bind2_some, if_neg (by simp), decC_eq, hd, bind2_some, if_neg (by simp)]
  show bind2 (ref04_do (tick c) _ x) _ = _
  rw [h3]; rfl
/-! many steps -/
def Ru (m : T_ref03_Mem) : Nat → T_ref04_Cpu → T_ref04_Cpu → Prop
  | 0, c, d => c = d
  | n + 1, c, d => c.State_ = 0 ∧ ∃ c', ref04_Step c m = some (c', m) ∧ Ru m n c' d
theorem Ru.trans {m : T_ref03_Mem} {b : Nat} {d e : T_ref04_Cpu} (h2 : Ru m b d e) : ∀ {a : Nat} {c : T_ref04_Cpu}, Ru m a c d → Ru m (a + b) c e
  | 0, c, h => by cases h; rw [Nat.zero_add]; exact h2
  | a + 1, c, ⟨h0, c', h1, h⟩ => by rw [Nat.add_right_comm]; exact ⟨h0, c', h1, Ru.trans h2 h⟩
def cS (R : Arr 16 Int) (k : Nat) (s epc ca : Int) (out : List T_api_Event) : T_ref04_Cpu := ⟨R, 4 * (k : Int), epc, ca, 0, 0, s, 0, out, 0, 0, 148, 0, []⟩
def cE (R : Arr 16 Int) (k : Nat) (s epc ca : Int) (out : List T_api_Event) : T_ref04_Cpu := ⟨R, 4 * (k : Int), epc, ca, 1, 0, s, 0, out, 0, 0, 148, 0, []⟩
def RS (r0 r1 r2 r3 r4 r5 r6 r13 : Int) : Arr 16 Int := arrL [r0, r1, r2, r3, r4, r5, r6, 0, 0, 0, 0, 0, 0, r13, 0, 0]
/-- so many steps, whatever is counted -/
def Rs (m : T_ref03_Mem) (epc ca : Int) (n : Nat) (R : Arr 16 Int) (k : Nat) (out : List T_api_Event) (R' : Arr 16 Int) (k' : Nat) (out' : List T_api_Event) : Prop := ∀ s, ∃ s', Ru m n (cS R k s epc ca out) (cS R' k' s' epc ca out')
/-- and then it halts -/
def Rh (m : T_ref03_Mem) (epc ca : Int) (n : Nat) (R : Arr 16 Int) (k : Nat) (out : List T_api_Event) (R' : Arr 16 Int) (k' : Nat) (out' : List T_api_Event) : Prop := ∀ s, ∃ s', Ru m n (cS R k s epc ca out) (cE R' k' s' epc ca out')
section
variable {m : T_ref03_Mem} {epc ca : Int} {a b : Nat} {R R1 R2 : Arr 16 Int} {k k1 k2 : Nat} {out o1 o2 : List T_api_Event}
theorem Rs.trans (h : Rs m epc ca a R k out R1 k1 o1) (h2 : Rs m epc ca b R1 k1 o1 R2 k2 o2) : Rs m epc ca (a + b) R k out R2 k2 o2 := fun s =>
  have ⟨s1, h1⟩ := h s
  have ⟨s2, h3⟩ := h2 s1
  ⟨s2, Ru.trans h3 h1⟩
theorem Rs.halt (h : Rs m epc ca a R k out R1 k1 o1) (h2 : Rh m epc ca b R1 k1 o1 R2 k2 o2) : Rh m epc ca (a + b) R k out R2 k2 o2 := fun s =>
  have ⟨s1, h1⟩ := h s
  have ⟨s2, h3⟩ := h2 s1
  ⟨s2, Ru.trans h3 h1⟩
theorem Rs.refl : Rs m epc ca 0 R k out R k out := fun s => ⟨s, rfl⟩
end
section
variable {E : Arr 5 Int} {W : List Int} {epc ca w : Int} {R R' : Arr 16 Int} {k k' : Nat} {out out' : List T_api_Event} {x : T_ref02_Instr}
theorem rs_one (hE : E.g 0 = 968) (hL : W.length ≤ 20000) (hk : k < 242) (hw : W[k]? = some w) (hd : decC w = some (x, 0)) (h : ∀ s, ref04_do (cS R k s epc ca out) ⟨E, W⟩ x = some (cS R' k' s epc ca out', ⟨E, W⟩)) : Rs ⟨E, W⟩ epc ca 1 R k out R' k' out' := fun s =>
  ⟨_, rfl, _, u_step rfl rfl hE hk hL hw hd (h _), rfl⟩
theorem d_halt {m : T_ref03_Mem} {s va : Int} (ha : ga R 0 = some va) : ref04_do (cS R k s epc ca out) m ⟨1, 0, 0, 0, 0⟩ = some (cE R k s epc ca out, m) := by
  unfold ref04_do cS cE
  dsimp only
  rw [ha, bind1_some, bind1_some, if_neg (by simp), if_pos (by simp)]
theorem rh_one {va : Int} (hE : E.g 0 = 968) (hL : W.length ≤ 20000) (hk : k < 242) (hw : W[k]? = some 16777216) (ha : ga R 0 = some va) : Rh ⟨E, W⟩ epc ca 1 R k out R k out := fun s =>
  ⟨IntKind.wrap .i64 (s + 1), rfl, _, u_step rfl rfl hE hk hL hw (x := ⟨1, 0, 0, 0, 0⟩) (by kernel_rfl) (d_halt ha), rfl⟩
variable {s : Int} {m : T_ref03_Mem} {v vb vc va : Int}
theorem u_pc (hk : k < 242) : IntKind.wrap .u32 (4 * (k : Int) + 4) = 4 * ((k + 1 : Nat) : Int) := by rw [wrap_u32 _ (by omega) (by omega)]; omega
/-- three registers -/
theorem d_three {o a b c : Int} (hk : k < 242) (ho : 6 ≤ o) (ho2 : o ≤ 17) (ha : ga R a = some va) (hb : ga R b = some vb) (hc : ga R c = some vc) (hr : ref04_reckon o vb vc = some (v, true)) (hs : sa R a v = some R') : ref04_do (cS R k s epc ca out) m ⟨o, a, b, c, 0⟩ = some (cS R' (k + 1) s epc ca out, m) := by
  unfold ref04_do cS
  dsimp only
  rw [ha, bind1_some, hb, bind1_some, if_pos (by simp; omega), hc, bind1_some, hr, bind2_some, if_neg (by simp), bind1_some, hs, bind1_some, u_pc hk]
theorem d_addi {a b n : Int} (hk : k < 242) (ha : ga R a = some va) (hb : ga R b = some vb) (hv : IntKind.wrap .u32 (vb + IntKind.wrap .u32 n) = v) (hs : sa R a v = some R') : ref04_do (cS R k s epc ca out) m ⟨5, a, b, 0, n⟩ = some (cS R' (k + 1) s epc ca out, m) := by
  unfold ref04_do ref04_do_j1 cS
  dsimp only
  rw [ha, bind1_some, hb, bind1_some, if_neg (by simp), if_neg (by simp), if_neg (by simp), if_neg (by simp), if_neg (by simp), if_pos (by simp), bind1_some, hv, hs, bind1_some, u_pc hk]
theorem d_ldw {a b n : Int} (hk : k < 242) (ha : ga R a = some va) (hb : ga R b = some vb) (hl : ref03_Load m (IntKind.wrap .u32 (vb + IntKind.wrap .u32 n)) = some (v, 0)) (hs : sa R a v = some R') : ref04_do (cS R k s epc ca out) m ⟨18, a, b, 0, n⟩ = some (cS R' (k + 1) s epc ca out, m) := by
  unfold ref04_do ref04_do_j1 cS
  dsimp only
  rw [ha, bind1_some, hb, bind1_some, if_neg (by simp), if_neg (by simp), if_neg (by simp), if_neg (by simp), if_neg (by simp), if_neg (by simp), if_neg (by simp), if_pos (by simp), hl, bind2_some, if_neg (by simp), bind1_some, hs, bind1_some, u_pc hk]
theorem d_bz_f {a n : Int} (hk : k < 242) (ha : ga R a = some va) (hb : ga R 0 = some vb) (h : va ≠ 0) : ref04_do (cS R k s epc ca out) m ⟨20, a, 0, 0, n⟩ = some (cS R (k + 1) s epc ca out, m) := by
  unfold ref04_do ref04_do_j1 cS
  dsimp only
  rw [ha, bind1_some, hb, bind1_some, if_neg (by simp), if_neg (by simp), if_neg (by simp), if_neg (by simp), if_neg (by simp), if_neg (by simp), if_neg (by simp), if_neg (by simp), if_neg (by simp), if_pos (by simp), if_neg (by simpa using h), u_pc hk]
theorem d_bz_t {a n : Int} (ha : ga R a = some 0) (hb : ga R 0 = some vb) (hn : IntKind.wrap .u32 ((IntKind.wrap .u32 (4 * (k : Int) + 4)) + (IntKind.wrap .u32 (4 * (IntKind.wrap .u32 n)))) = 4 * (k' : Int)) : ref04_do (cS R k s epc ca out) m ⟨20, a, 0, 0, n⟩ = some (cS R k' s epc ca out, m) := by
  unfold ref04_do ref04_do_j1 cS
  dsimp only
  rw [ha, bind1_some, hb, bind1_some, if_neg (by simp), if_neg (by simp), if_neg (by simp), if_neg (by simp), if_neg (by simp), if_neg (by simp), if_neg (by simp), if_neg (by simp), if_neg (by simp), if_pos (by simp), if_pos (by simp), hn]
theorem d_bnz_f {a n : Int} (hk : k < 242) (ha : ga R a = some 0) (hb : ga R 0 = some vb) : ref04_do (cS R k s epc ca out) m ⟨21, a, 0, 0, n⟩ = some (cS R (k + 1) s epc ca out, m) := by
  unfold ref04_do ref04_do_j1 cS
  dsimp only
  rw [ha, bind1_some, hb, bind1_some, if_neg (by simp), if_neg (by simp), if_neg (by simp), if_neg (by simp), if_neg (by simp), if_neg (by simp), if_neg (by simp), if_neg (by simp), if_neg (by simp), if_neg (by simp), if_pos (by simp), if_neg (by simp), u_pc hk]
theorem d_bnz_t {a n : Int} (ha : ga R a = some va) (hb : ga R 0 = some vb) (h : va ≠ 0) (hn : IntKind.wrap .u32 ((IntKind.wrap .u32 (4 * (k : Int) + 4)) + (IntKind.wrap .u32 (4 * (IntKind.wrap .u32 n)))) = 4 * (k' : Int)) : ref04_do (cS R k s epc ca out) m ⟨21, a, 0, 0, n⟩ = some (cS R k' s epc ca out, m) := by
  unfold ref04_do ref04_do_j1 cS
  dsimp only
  rw [ha, bind1_some, hb, bind1_some, if_neg (by simp), if_neg (by simp), if_neg (by simp), if_neg (by simp), if_neg (by simp), if_neg (by simp), if_neg (by simp), if_neg (by simp), if_neg (by simp), if_neg (by simp), if_pos (by simp), if_pos (by simpa using h), hn]
end
end Go.Proofs.Abs
/- The runtime's code, step by step. -/
namespace Go.Proofs.Abs
open Go
set_option linter.unusedVariables false
set_option linter.unusedSimpArgs false
set_option maxRecDepth 100000
def rwL : List Int := [553648129, 554696704, 503316482, 56623104, 73794504, 305528832, 90570756, 35651584, 121831426, 38797313, 257163269, 357564429, 104988675, 38797314, 155451397, 38797320, 139722757, 106233862, 307560448, 257228801, 340787202, 86245376, 385875953, 87293952, 385875951, 38797320, 139591685, 106233862, 306511876, 356515844, 303890436, 85065724, 316473344, 385875937, 406847488, 503316485, 16777216, 66060288, 83820544, 47185920, 33554432, 16777216]
theorem rw_eq : runtime_Load (rtAll 0) 3 968 = some rwL := by kernel_rfl
theorem rk_sub {a b c : Nat} (h : c + b = a) (ha : a < 2147483648) : ref04_reckon 7 (a : Int) (b : Int) = some ((c : Int), true) := by
  show some (IntKind.wrap .u32 ((a : Int) - b), true) = _
  rw [wrap_u32 _ (by omega) (by omega), show (a : Int) - b = c by omega]
theorem rk_add {a b c : Nat} (h : a + b = c) (hc : c < 2147483648) : ref04_reckon 6 (a : Int) (b : Int) = some ((c : Int), true) := by
  show some (IntKind.wrap .u32 ((a : Int) + b), true) = _
  rw [wrap_u32 _ (by omega) (by omega), show (a : Int) + b = c by omega]
theorem rk_sle {a b : Nat} (ha : a < 2147483648) (hb : b < 2147483648) : ref04_reckon 15 (a : Int) (b : Int) = some (if a ≤ b then 1 else 0, true) := by
  show bind1 (ref04_is (decide (IntKind.wrap .i32 (a : Int) ≤ IntKind.wrap .i32 (b : Int)))) (fun r => some (r, true)) = _
  rw [wrap_i32 _ (by omega) (by omega), wrap_i32 _ (by omega) (by omega)]
  unfold ref04_is
  by_cases h : a ≤ b
  · rw [if_pos (by simpa using h), if_pos h, bind1_some]
  · rw [if_neg (by simpa using h), if_neg h, bind1_some]
theorem u_round {x : Int} (h0 : 0 ≤ x) (h1 : x ≤ 2147483647) : ref01_Round x = some x := by
  unfold ref01_Round ref01_Round_j1 ref01_Round_j2
  have e : Int.tmod x 4294967296 = x := by rw [tmod_pos (by omega)]; omega
  rw [e, if_neg (by simp; omega), if_neg (by simp; omega), wrap_i32 _ (by omega) (by omega)]
theorem rk_mul {a : Nat} (ha : a < 10000) : ref04_reckon 8 (a : Int) 8 = some (((8 * a : Nat) : Int), true) := by
  show bind1 (ref01_Times (IntKind.wrap .i32 (a : Int)) 8) (fun r => some (IntKind.wrap .u32 r, true)) = _
  unfold ref01_Times
  rw [wrap_i32 _ (by omega) (by omega), wrap_i64 (a : Int) (by omega) (by omega), wrap_i64 8 (by omega) (by omega), wrap_i64 _ (by omega) (by omega), u_round (by omega) (by omega), bind1_some, bind1_some, wrap_u32 _ (by omega) (by omega), show (a : Int) * 8 = ((8 * a : Nat) : Int) by omega]
theorem rk_div {a : Nat} (ha : a < 10000) : ref04_reckon 9 (a : Int) 2 = some (((a / 2 : Nat) : Int), true) := by
  show bind2 (ref01_Div (IntKind.wrap .i32 (a : Int)) 2) (fun r s => some (IntKind.wrap .u32 r, s)) = _
  unfold ref01_Div ref01_Div_j1 quoI
  rw [wrap_i32 _ (by omega) (by omega), wrap_i64 (a : Int) (by omega) (by omega), wrap_i64 2 (by omega) (by omega), tdiv_pos (by omega), if_neg (by simp), if_neg (by simp), bind1_some, if_neg (by simp), wrap_i64 _ (by omega) (by omega), u_round (by omega) (by omega), bind1_some, bind2_some, wrap_u32 _ (by omega) (by omega), show (a : Int) / 2 = ((a / 2 : Nat) : Int) by omega]
theorem wrap_mod32 (x : Int) : IntKind.u32.wrap x = x % 4294967296 := by
  simp only [IntKind.wrap, IntKind.bits, IntKind.signed]
  simp
theorem d_jr {R : Arr 16 Int} {k k' : Nat} {s epc ca vb : Int} {out : List T_api_Event} {m : T_ref03_Mem} {a : Int} (ha : ga R a = some (4 * (k' : Int))) (hb : ga R 0 = some vb) : ref04_do (cS R k s epc ca out) m ⟨24, a, 0, 0, 0⟩ = some (cS R k' s epc ca out, m) := by
  unfold ref04_do cS
  dsimp only
  rw [ha, bind1_some, hb, bind1_some, if_neg (by simp), if_neg (by simp), if_neg (by simp), if_neg (by simp), if_neg (by simp), if_neg (by simp), if_neg (by simp), if_neg (by simp), if_neg (by simp), if_neg (by simp), if_neg (by simp), if_neg (by simp), if_neg (by simp)]
  rfl
section
variable {E : Arr 5 Int} {X : List Int} {epc ca : Int} {r0 r1 r2 r3 r4 r5 r6 fp : Int} {out : List T_api_Event} (hE : E.g 0 = 968) (hL : (rwL ++ X).length ≤ 20000)
include hE hL
theorem blkA : Rs ⟨E, rwL ++ X⟩ epc ca 3 (RS 0 0 0 0 0 0 0 fp) 0 [] (RS ca epc 0 0 0 0 0 fp) 3 [⟨2, IntKind.wrap .i32 ca⟩] := by
  have h0 : Rs ⟨E, rwL ++ X⟩ epc ca 1 (RS 0 0 0 0 0 0 0 fp) 0 [] (RS ca 0 0 0 0 0 0 fp) 1 [] := (rs_one (x := ⟨33, 0, 0, 0, 1⟩) (w := 553648129) hE hL (by omega) (by kernel_rfl) (by kernel_rfl) (fun s => by kernel_rfl))
  have h1 : Rs ⟨E, rwL ++ X⟩ epc ca 1 (RS ca 0 0 0 0 0 0 fp) 1 [] (RS ca epc 0 0 0 0 0 fp) 2 [] := (rs_one (x := ⟨33, 1, 0, 0, 0⟩) (w := 554696704) hE hL (by omega) (by kernel_rfl) (by kernel_rfl) (fun s => by kernel_rfl))
  have h2 : Rs ⟨E, rwL ++ X⟩ epc ca 1 (RS ca epc 0 0 0 0 0 fp) 2 [] (RS ca epc 0 0 0 0 0 fp) 3 [⟨2, IntKind.wrap .i32 ca⟩] := (rs_one (x := ⟨30, 0, 0, 0, 2⟩) (w := 503316482) hE hL (by omega) (by kernel_rfl) (by kernel_rfl) (fun s => by kernel_rfl))
  exact ((h0.trans h1).trans h2)
theorem blkB {n : Int} (hn : (rwL ++ X)[242]? = some n) : Rs ⟨E, rwL ++ X⟩ epc ca 5 (RS r0 r1 r2 r3 r4 r5 r6 fp) 3 out (RS r0 r1 0 n r4 r5 972 fp) 8 out := by
  have h0 : Rs ⟨E, rwL ++ X⟩ epc ca 1 (RS r0 r1 r2 r3 r4 r5 r6 fp) 3 out (RS r0 r1 r2 r3 r4 r5 0 fp) 4 out := (rs_one (x := ⟨3, 6, 0, 0, 0⟩) (w := 56623104) hE hL (by omega) (by kernel_rfl) (by kernel_rfl) (fun s => by kernel_rfl))
  have h1 : Rs ⟨E, rwL ++ X⟩ epc ca 1 (RS r0 r1 r2 r3 r4 r5 0 fp) 4 out (RS r0 r1 r2 r3 r4 r5 968 fp) 5 out := (rs_one (x := ⟨4, 6, 6, 0, 968⟩) (w := 73794504) hE hL (by omega) (by kernel_rfl) (by kernel_rfl) (fun s => by kernel_rfl))
  have h2 : Rs ⟨E, rwL ++ X⟩ epc ca 1 (RS r0 r1 r2 r3 r4 r5 968 fp) 5 out (RS r0 r1 r2 n r4 r5 968 fp) 6 out := (rs_one (x := ⟨18, 3, 6, 0, 0⟩) (w := 305528832) hE hL (by omega) (by kernel_rfl) (by kernel_rfl) (fun s => d_ldw (by omega) rfl rfl (u_load (k := 242) (by kernel_rfl) hL hn) rfl))
  have h3 : Rs ⟨E, rwL ++ X⟩ epc ca 1 (RS r0 r1 r2 n r4 r5 968 fp) 6 out (RS r0 r1 r2 n r4 r5 972 fp) 7 out := (rs_one (x := ⟨5, 6, 6, 0, 4⟩) (w := 90570756) hE hL (by omega) (by kernel_rfl) (by kernel_rfl) (fun s => by kernel_rfl))
  have h4 : Rs ⟨E, rwL ++ X⟩ epc ca 1 (RS r0 r1 r2 n r4 r5 972 fp) 7 out (RS r0 r1 0 n r4 r5 972 fp) 8 out := (rs_one (x := ⟨2, 2, 0, 0, 0⟩) (w := 35651584) hE hL (by omega) (by kernel_rfl) (by kernel_rfl) (fun s => by kernel_rfl))
  exact ((((h0.trans h1).trans h2).trans h3).trans h4)
theorem blkF {a b : Nat} {p : Int} (hab : b = a + 1) (hb : b ≤ 1000) (hp : (rwL ++ X)[244 + 2 * a]? = some p) : Rs ⟨E, rwL ++ X⟩ epc ca 8 (RS r0 r1 ((a : Int)) ((b : Int)) r4 r5 972 fp) 8 out (RS r0 r1 ((a : Int)) ((b : Int)) p (((8 * a + 972 : Nat) : Int)) 972 fp) 29 out := by
  have h0 : Rs ⟨E, rwL ++ X⟩ epc ca 1 (RS r0 r1 ((a : Int)) ((b : Int)) r4 r5 972 fp) 8 out (RS r0 r1 ((a : Int)) ((b : Int)) 1 r5 972 fp) 9 out := (rs_one (x := ⟨7, 4, 3, 2, 0⟩) (w := 121831426) hE hL (by omega) (by kernel_rfl) (by kernel_rfl) (fun s => d_three (by omega) (by omega) (by omega) rfl rfl rfl (rk_sub (c := 1) (by omega) (by omega)) rfl))
  have h1 : Rs ⟨E, rwL ++ X⟩ epc ca 1 (RS r0 r1 ((a : Int)) ((b : Int)) 1 r5 972 fp) 9 out (RS r0 r1 ((a : Int)) ((b : Int)) 1 1 972 fp) 10 out := (rs_one (x := ⟨2, 5, 0, 0, 1⟩) (w := 38797313) hE hL (by omega) (by kernel_rfl) (by kernel_rfl) (fun s => by kernel_rfl))
  have h2 : Rs ⟨E, rwL ++ X⟩ epc ca 1 (RS r0 r1 ((a : Int)) ((b : Int)) 1 1 972 fp) 10 out (RS r0 r1 ((a : Int)) ((b : Int)) 1 1 972 fp) 11 out := (rs_one (x := ⟨15, 5, 4, 5, 0⟩) (w := 257163269) hE hL (by omega) (by kernel_rfl) (by kernel_rfl) (fun s => d_three (by omega) (by omega) (by omega) rfl rfl rfl (by kernel_rfl) rfl))
  have h3 : Rs ⟨E, rwL ++ X⟩ epc ca 1 (RS r0 r1 ((a : Int)) ((b : Int)) 1 1 972 fp) 11 out (RS r0 r1 ((a : Int)) ((b : Int)) 1 1 972 fp) 25 out := (rs_one (x := ⟨21, 5, 0, 0, 13⟩) (w := 357564429) hE hL (by omega) (by kernel_rfl) (by kernel_rfl) (fun s => d_bnz_t rfl rfl (by decide) (by kernel_rfl)))
  have h4 : Rs ⟨E, rwL ++ X⟩ epc ca 1 (RS r0 r1 ((a : Int)) ((b : Int)) 1 1 972 fp) 25 out (RS r0 r1 ((a : Int)) ((b : Int)) 1 8 972 fp) 26 out := (rs_one (x := ⟨2, 5, 0, 0, 8⟩) (w := 38797320) hE hL (by omega) (by kernel_rfl) (by kernel_rfl) (fun s => by kernel_rfl))
  have h5 : Rs ⟨E, rwL ++ X⟩ epc ca 1 (RS r0 r1 ((a : Int)) ((b : Int)) 1 8 972 fp) 26 out (RS r0 r1 ((a : Int)) ((b : Int)) 1 (((8 * a : Nat) : Int)) 972 fp) 27 out := (rs_one (x := ⟨8, 5, 2, 5, 0⟩) (w := 139591685) hE hL (by omega) (by kernel_rfl) (by kernel_rfl) (fun s => d_three (by omega) (by omega) (by omega) rfl rfl rfl (rk_mul (by omega)) rfl))
  have h6 : Rs ⟨E, rwL ++ X⟩ epc ca 1 (RS r0 r1 ((a : Int)) ((b : Int)) 1 (((8 * a : Nat) : Int)) 972 fp) 27 out (RS r0 r1 ((a : Int)) ((b : Int)) 1 (((8 * a + 972 : Nat) : Int)) 972 fp) 28 out := (rs_one (x := ⟨6, 5, 5, 6, 0⟩) (w := 106233862) hE hL (by omega) (by kernel_rfl) (by kernel_rfl) (fun s => d_three (by omega) (by omega) (by omega) rfl rfl rfl (rk_add (b := 972) rfl (by omega)) rfl))
  have h7 : Rs ⟨E, rwL ++ X⟩ epc ca 1 (RS r0 r1 ((a : Int)) ((b : Int)) 1 (((8 * a + 972 : Nat) : Int)) 972 fp) 28 out (RS r0 r1 ((a : Int)) ((b : Int)) p (((8 * a + 972 : Nat) : Int)) 972 fp) 29 out := (rs_one (x := ⟨18, 4, 5, 0, 4⟩) (w := 306511876) hE hL (by omega) (by kernel_rfl) (by kernel_rfl) (fun s => d_ldw (by omega) rfl rfl (u_load (k := 244 + 2 * a) (by rw [show IntKind.wrap .u32 4 = 4 by kernel_rfl, wrap_u32 _ (by omega) (by omega)]; omega) hL hp) rfl))
  exact (((((((h0.trans h1).trans h2).trans h3).trans h4).trans h5).trans h6).trans h7)
theorem blkU {a b t q : Nat} (hab : a + 1 < b) (hb : b ≤ 1000) (ht : (rwL ++ X)[243 + 2 * ((a + b) / 2)]? = some (t : Int)) (htt : t < 2147483648) (hq : q < 2147483648) (hle : t ≤ q) : Rs ⟨E, rwL ++ X⟩ epc ca 15 (RS r0 ((q : Int)) ((a : Int)) ((b : Int)) r4 r5 972 fp) 8 out (RS r0 ((q : Int)) ((((a + b) / 2 : Nat) : Int)) ((b : Int)) ((((a + b) / 2 : Nat) : Int)) 1 972 fp) 8 out := by
  have h0 : Rs ⟨E, rwL ++ X⟩ epc ca 1 (RS r0 ((q : Int)) ((a : Int)) ((b : Int)) r4 r5 972 fp) 8 out (RS r0 ((q : Int)) ((a : Int)) ((b : Int)) (((b - a : Nat) : Int)) r5 972 fp) 9 out := (rs_one (x := ⟨7, 4, 3, 2, 0⟩) (w := 121831426) hE hL (by omega) (by kernel_rfl) (by kernel_rfl) (fun s => d_three (by omega) (by omega) (by omega) rfl rfl rfl (rk_sub (by omega) (by omega)) rfl))
  have h1 : Rs ⟨E, rwL ++ X⟩ epc ca 1 (RS r0 ((q : Int)) ((a : Int)) ((b : Int)) (((b - a : Nat) : Int)) r5 972 fp) 9 out (RS r0 ((q : Int)) ((a : Int)) ((b : Int)) (((b - a : Nat) : Int)) 1 972 fp) 10 out := (rs_one (x := ⟨2, 5, 0, 0, 1⟩) (w := 38797313) hE hL (by omega) (by kernel_rfl) (by kernel_rfl) (fun s => by kernel_rfl))
  have h2 : Rs ⟨E, rwL ++ X⟩ epc ca 1 (RS r0 ((q : Int)) ((a : Int)) ((b : Int)) (((b - a : Nat) : Int)) 1 972 fp) 10 out (RS r0 ((q : Int)) ((a : Int)) ((b : Int)) (((b - a : Nat) : Int)) 0 972 fp) 11 out := (rs_one (x := ⟨15, 5, 4, 5, 0⟩) (w := 257163269) hE hL (by omega) (by kernel_rfl) (by kernel_rfl) (fun s => d_three (by omega) (by omega) (by omega) rfl rfl rfl ((rk_sle (b := 1) (by omega) (by omega)).trans (by rw [if_neg (by omega)])) rfl))
  have h3 : Rs ⟨E, rwL ++ X⟩ epc ca 1 (RS r0 ((q : Int)) ((a : Int)) ((b : Int)) (((b - a : Nat) : Int)) 0 972 fp) 11 out (RS r0 ((q : Int)) ((a : Int)) ((b : Int)) (((b - a : Nat) : Int)) 0 972 fp) 12 out := (rs_one (x := ⟨21, 5, 0, 0, 13⟩) (w := 357564429) hE hL (by omega) (by kernel_rfl) (by kernel_rfl) (fun s => d_bnz_f (by omega) rfl rfl))
  have h4 : Rs ⟨E, rwL ++ X⟩ epc ca 1 (RS r0 ((q : Int)) ((a : Int)) ((b : Int)) (((b - a : Nat) : Int)) 0 972 fp) 12 out (RS r0 ((q : Int)) ((a : Int)) ((b : Int)) (((a + b : Nat) : Int)) 0 972 fp) 13 out := (rs_one (x := ⟨6, 4, 2, 3, 0⟩) (w := 104988675) hE hL (by omega) (by kernel_rfl) (by kernel_rfl) (fun s => d_three (by omega) (by omega) (by omega) rfl rfl rfl (rk_add rfl (by omega)) rfl))
  have h5 : Rs ⟨E, rwL ++ X⟩ epc ca 1 (RS r0 ((q : Int)) ((a : Int)) ((b : Int)) (((a + b : Nat) : Int)) 0 972 fp) 13 out (RS r0 ((q : Int)) ((a : Int)) ((b : Int)) (((a + b : Nat) : Int)) 2 972 fp) 14 out := (rs_one (x := ⟨2, 5, 0, 0, 2⟩) (w := 38797314) hE hL (by omega) (by kernel_rfl) (by kernel_rfl) (fun s => by kernel_rfl))
  have h6 : Rs ⟨E, rwL ++ X⟩ epc ca 1 (RS r0 ((q : Int)) ((a : Int)) ((b : Int)) (((a + b : Nat) : Int)) 2 972 fp) 14 out (RS r0 ((q : Int)) ((a : Int)) ((b : Int)) ((((a + b) / 2 : Nat) : Int)) 2 972 fp) 15 out := (rs_one (x := ⟨9, 4, 4, 5, 0⟩) (w := 155451397) hE hL (by omega) (by kernel_rfl) (by kernel_rfl) (fun s => d_three (by omega) (by omega) (by omega) rfl rfl rfl (rk_div (by omega)) rfl))
  have h7 : Rs ⟨E, rwL ++ X⟩ epc ca 1 (RS r0 ((q : Int)) ((a : Int)) ((b : Int)) ((((a + b) / 2 : Nat) : Int)) 2 972 fp) 15 out (RS r0 ((q : Int)) ((a : Int)) ((b : Int)) ((((a + b) / 2 : Nat) : Int)) 8 972 fp) 16 out := (rs_one (x := ⟨2, 5, 0, 0, 8⟩) (w := 38797320) hE hL (by omega) (by kernel_rfl) (by kernel_rfl) (fun s => by kernel_rfl))
  have h8 : Rs ⟨E, rwL ++ X⟩ epc ca 1 (RS r0 ((q : Int)) ((a : Int)) ((b : Int)) ((((a + b) / 2 : Nat) : Int)) 8 972 fp) 16 out (RS r0 ((q : Int)) ((a : Int)) ((b : Int)) ((((a + b) / 2 : Nat) : Int)) (((8 * ((a + b) / 2) : Nat) : Int)) 972 fp) 17 out := (rs_one (x := ⟨8, 5, 4, 5, 0⟩) (w := 139722757) hE hL (by omega) (by kernel_rfl) (by kernel_rfl) (fun s => d_three (by omega) (by omega) (by omega) rfl rfl rfl (rk_mul (by omega)) rfl))
  have h9 : Rs ⟨E, rwL ++ X⟩ epc ca 1 (RS r0 ((q : Int)) ((a : Int)) ((b : Int)) ((((a + b) / 2 : Nat) : Int)) (((8 * ((a + b) / 2) : Nat) : Int)) 972 fp) 17 out (RS r0 ((q : Int)) ((a : Int)) ((b : Int)) ((((a + b) / 2 : Nat) : Int)) (((8 * ((a + b) / 2) + 972 : Nat) : Int)) 972 fp) 18 out := (rs_one (x := ⟨6, 5, 5, 6, 0⟩) (w := 106233862) hE hL (by omega) (by kernel_rfl) (by kernel_rfl) (fun s => d_three (by omega) (by omega) (by omega) rfl rfl rfl (rk_add (b := 972) rfl (by omega)) rfl))
  have h10 : Rs ⟨E, rwL ++ X⟩ epc ca 1 (RS r0 ((q : Int)) ((a : Int)) ((b : Int)) ((((a + b) / 2 : Nat) : Int)) (((8 * ((a + b) / 2) + 972 : Nat) : Int)) 972 fp) 18 out (RS r0 ((q : Int)) ((a : Int)) ((b : Int)) ((((a + b) / 2 : Nat) : Int)) ((t : Int)) 972 fp) 19 out := (rs_one (x := ⟨18, 5, 5, 0, 0⟩) (w := 307560448) hE hL (by omega) (by kernel_rfl) (by kernel_rfl) (fun s => d_ldw (by omega) rfl rfl (u_load (k := 243 + 2 * ((a + b) / 2)) (by rw [show IntKind.wrap .u32 0 = 0 by kernel_rfl, wrap_u32 _ (by omega) (by omega)]; omega) hL ht) rfl))
  have h11 : Rs ⟨E, rwL ++ X⟩ epc ca 1 (RS r0 ((q : Int)) ((a : Int)) ((b : Int)) ((((a + b) / 2 : Nat) : Int)) ((t : Int)) 972 fp) 19 out (RS r0 ((q : Int)) ((a : Int)) ((b : Int)) ((((a + b) / 2 : Nat) : Int)) 1 972 fp) 20 out := (rs_one (x := ⟨15, 5, 5, 1, 0⟩) (w := 257228801) hE hL (by omega) (by kernel_rfl) (by kernel_rfl) (fun s => d_three (by omega) (by omega) (by omega) rfl rfl rfl ((rk_sle (by omega) (by omega)).trans (by rw [if_pos (by omega)])) rfl))
  have h12 : Rs ⟨E, rwL ++ X⟩ epc ca 1 (RS r0 ((q : Int)) ((a : Int)) ((b : Int)) ((((a + b) / 2 : Nat) : Int)) 1 972 fp) 20 out (RS r0 ((q : Int)) ((a : Int)) ((b : Int)) ((((a + b) / 2 : Nat) : Int)) 1 972 fp) 21 out := (rs_one (x := ⟨20, 5, 0, 0, 2⟩) (w := 340787202) hE hL (by omega) (by kernel_rfl) (by kernel_rfl) (fun s => d_bz_f (by omega) rfl rfl (by decide)))
  have h13 : Rs ⟨E, rwL ++ X⟩ epc ca 1 (RS r0 ((q : Int)) ((a : Int)) ((b : Int)) ((((a + b) / 2 : Nat) : Int)) 1 972 fp) 21 out (RS r0 ((q : Int)) ((((a + b) / 2 : Nat) : Int)) ((b : Int)) ((((a + b) / 2 : Nat) : Int)) 1 972 fp) 22 out := (rs_one (x := ⟨5, 2, 4, 0, 0⟩) (w := 86245376) hE hL (by omega) (by kernel_rfl) (by kernel_rfl) (fun s => d_addi (by omega) rfl rfl (by rw [show IntKind.wrap .u32 0 = 0 by kernel_rfl, wrap_u32 _ (by omega) (by omega)]; omega) rfl))
  have h14 : Rs ⟨E, rwL ++ X⟩ epc ca 1 (RS r0 ((q : Int)) ((((a + b) / 2 : Nat) : Int)) ((b : Int)) ((((a + b) / 2 : Nat) : Int)) 1 972 fp) 22 out (RS r0 ((q : Int)) ((((a + b) / 2 : Nat) : Int)) ((b : Int)) ((((a + b) / 2 : Nat) : Int)) 1 972 fp) 8 out := (rs_one (x := ⟨22, 0, 0, 0, -15⟩) (w := 385875953) hE hL (by omega) (by kernel_rfl) (by kernel_rfl) (fun s => by kernel_rfl))
  exact ((((((((((((((h0.trans h1).trans h2).trans h3).trans h4).trans h5).trans h6).trans h7).trans h8).trans h9).trans h10).trans h11).trans h12).trans h13).trans h14)
theorem blkD {a b t q : Nat} (hab : a + 1 < b) (hb : b ≤ 1000) (ht : (rwL ++ X)[243 + 2 * ((a + b) / 2)]? = some (t : Int)) (htt : t < 2147483648) (hq : q < 2147483648) (hle : q < t) : Rs ⟨E, rwL ++ X⟩ epc ca 15 (RS r0 ((q : Int)) ((a : Int)) ((b : Int)) r4 r5 972 fp) 8 out (RS r0 ((q : Int)) ((a : Int)) ((((a + b) / 2 : Nat) : Int)) ((((a + b) / 2 : Nat) : Int)) 0 972 fp) 8 out := by
  have h0 : Rs ⟨E, rwL ++ X⟩ epc ca 1 (RS r0 ((q : Int)) ((a : Int)) ((b : Int)) r4 r5 972 fp) 8 out (RS r0 ((q : Int)) ((a : Int)) ((b : Int)) (((b - a : Nat) : Int)) r5 972 fp) 9 out := (rs_one (x := ⟨7, 4, 3, 2, 0⟩) (w := 121831426) hE hL (by omega) (by kernel_rfl) (by kernel_rfl) (fun s => d_three (by omega) (by omega) (by omega) rfl rfl rfl (rk_sub (by omega) (by omega)) rfl))
  have h1 : Rs ⟨E, rwL ++ X⟩ epc ca 1 (RS r0 ((q : Int)) ((a : Int)) ((b : Int)) (((b - a : Nat) : Int)) r5 972 fp) 9 out (RS r0 ((q : Int)) ((a : Int)) ((b : Int)) (((b - a : Nat) : Int)) 1 972 fp) 10 out := (rs_one (x := ⟨2, 5, 0, 0, 1⟩) (w := 38797313) hE hL (by omega) (by kernel_rfl) (by kernel_rfl) (fun s => by kernel_rfl))
  have h2 : Rs ⟨E, rwL ++ X⟩ epc ca 1 (RS r0 ((q : Int)) ((a : Int)) ((b : Int)) (((b - a : Nat) : Int)) 1 972 fp) 10 out (RS r0 ((q : Int)) ((a : Int)) ((b : Int)) (((b - a : Nat) : Int)) 0 972 fp) 11 out := (rs_one (x := ⟨15, 5, 4, 5, 0⟩) (w := 257163269) hE hL (by omega) (by kernel_rfl) (by kernel_rfl) (fun s => d_three (by omega) (by omega) (by omega) rfl rfl rfl ((rk_sle (b := 1) (by omega) (by omega)).trans (by rw [if_neg (by omega)])) rfl))
  have h3 : Rs ⟨E, rwL ++ X⟩ epc ca 1 (RS r0 ((q : Int)) ((a : Int)) ((b : Int)) (((b - a : Nat) : Int)) 0 972 fp) 11 out (RS r0 ((q : Int)) ((a : Int)) ((b : Int)) (((b - a : Nat) : Int)) 0 972 fp) 12 out := (rs_one (x := ⟨21, 5, 0, 0, 13⟩) (w := 357564429) hE hL (by omega) (by kernel_rfl) (by kernel_rfl) (fun s => d_bnz_f (by omega) rfl rfl))
  have h4 : Rs ⟨E, rwL ++ X⟩ epc ca 1 (RS r0 ((q : Int)) ((a : Int)) ((b : Int)) (((b - a : Nat) : Int)) 0 972 fp) 12 out (RS r0 ((q : Int)) ((a : Int)) ((b : Int)) (((a + b : Nat) : Int)) 0 972 fp) 13 out := (rs_one (x := ⟨6, 4, 2, 3, 0⟩) (w := 104988675) hE hL (by omega) (by kernel_rfl) (by kernel_rfl) (fun s => d_three (by omega) (by omega) (by omega) rfl rfl rfl (rk_add rfl (by omega)) rfl))
  have h5 : Rs ⟨E, rwL ++ X⟩ epc ca 1 (RS r0 ((q : Int)) ((a : Int)) ((b : Int)) (((a + b : Nat) : Int)) 0 972 fp) 13 out (RS r0 ((q : Int)) ((a : Int)) ((b : Int)) (((a + b : Nat) : Int)) 2 972 fp) 14 out := (rs_one (x := ⟨2, 5, 0, 0, 2⟩) (w := 38797314) hE hL (by omega) (by kernel_rfl) (by kernel_rfl) (fun s => by kernel_rfl))
  have h6 : Rs ⟨E, rwL ++ X⟩ epc ca 1 (RS r0 ((q : Int)) ((a : Int)) ((b : Int)) (((a + b : Nat) : Int)) 2 972 fp) 14 out (RS r0 ((q : Int)) ((a : Int)) ((b : Int)) ((((a + b) / 2 : Nat) : Int)) 2 972 fp) 15 out := (rs_one (x := ⟨9, 4, 4, 5, 0⟩) (w := 155451397) hE hL (by omega) (by kernel_rfl) (by kernel_rfl) (fun s => d_three (by omega) (by omega) (by omega) rfl rfl rfl (rk_div (by omega)) rfl))
  have h7 : Rs ⟨E, rwL ++ X⟩ epc ca 1 (RS r0 ((q : Int)) ((a : Int)) ((b : Int)) ((((a + b) / 2 : Nat) : Int)) 2 972 fp) 15 out (RS r0 ((q : Int)) ((a : Int)) ((b : Int)) ((((a + b) / 2 : Nat) : Int)) 8 972 fp) 16 out := (rs_one (x := ⟨2, 5, 0, 0, 8⟩) (w := 38797320) hE hL (by omega) (by kernel_rfl) (by kernel_rfl) (fun s => by kernel_rfl))
  have h8 : Rs ⟨E, rwL ++ X⟩ epc ca 1 (RS r0 ((q : Int)) ((a : Int)) ((b : Int)) ((((a + b) / 2 : Nat) : Int)) 8 972 fp) 16 out (RS r0 ((q : Int)) ((a : Int)) ((b : Int)) ((((a + b) / 2 : Nat) : Int)) (((8 * ((a + b) / 2) : Nat) : Int)) 972 fp) 17 out := (rs_one (x := ⟨8, 5, 4, 5, 0⟩) (w := 139722757) hE hL (by omega) (by kernel_rfl) (by kernel_rfl) (fun s => d_three (by omega) (by omega) (by omega) rfl rfl rfl (rk_mul (by omega)) rfl))
  have h9 : Rs ⟨E, rwL ++ X⟩ epc ca 1 (RS r0 ((q : Int)) ((a : Int)) ((b : Int)) ((((a + b) / 2 : Nat) : Int)) (((8 * ((a + b) / 2) : Nat) : Int)) 972 fp) 17 out (RS r0 ((q : Int)) ((a : Int)) ((b : Int)) ((((a + b) / 2 : Nat) : Int)) (((8 * ((a + b) / 2) + 972 : Nat) : Int)) 972 fp) 18 out := (rs_one (x := ⟨6, 5, 5, 6, 0⟩) (w := 106233862) hE hL (by omega) (by kernel_rfl) (by kernel_rfl) (fun s => d_three (by omega) (by omega) (by omega) rfl rfl rfl (rk_add (b := 972) rfl (by omega)) rfl))
  have h10 : Rs ⟨E, rwL ++ X⟩ epc ca 1 (RS r0 ((q : Int)) ((a : Int)) ((b : Int)) ((((a + b) / 2 : Nat) : Int)) (((8 * ((a + b) / 2) + 972 : Nat) : Int)) 972 fp) 18 out (RS r0 ((q : Int)) ((a : Int)) ((b : Int)) ((((a + b) / 2 : Nat) : Int)) ((t : Int)) 972 fp) 19 out := (rs_one (x := ⟨18, 5, 5, 0, 0⟩) (w := 307560448) hE hL (by omega) (by kernel_rfl) (by kernel_rfl) (fun s => d_ldw (by omega) rfl rfl (u_load (k := 243 + 2 * ((a + b) / 2)) (by rw [show IntKind.wrap .u32 0 = 0 by kernel_rfl, wrap_u32 _ (by omega) (by omega)]; omega) hL ht) rfl))
  have h11 : Rs ⟨E, rwL ++ X⟩ epc ca 1 (RS r0 ((q : Int)) ((a : Int)) ((b : Int)) ((((a + b) / 2 : Nat) : Int)) ((t : Int)) 972 fp) 19 out (RS r0 ((q : Int)) ((a : Int)) ((b : Int)) ((((a + b) / 2 : Nat) : Int)) 0 972 fp) 20 out := (rs_one (x := ⟨15, 5, 5, 1, 0⟩) (w := 257228801) hE hL (by omega) (by kernel_rfl) (by kernel_rfl) (fun s => d_three (by omega) (by omega) (by omega) rfl rfl rfl ((rk_sle (by omega) (by omega)).trans (by rw [if_neg (by omega)])) rfl))
  have h12 : Rs ⟨E, rwL ++ X⟩ epc ca 1 (RS r0 ((q : Int)) ((a : Int)) ((b : Int)) ((((a + b) / 2 : Nat) : Int)) 0 972 fp) 20 out (RS r0 ((q : Int)) ((a : Int)) ((b : Int)) ((((a + b) / 2 : Nat) : Int)) 0 972 fp) 23 out := (rs_one (x := ⟨20, 5, 0, 0, 2⟩) (w := 340787202) hE hL (by omega) (by kernel_rfl) (by kernel_rfl) (fun s => d_bz_t rfl rfl (by kernel_rfl)))
  have h13 : Rs ⟨E, rwL ++ X⟩ epc ca 1 (RS r0 ((q : Int)) ((a : Int)) ((b : Int)) ((((a + b) / 2 : Nat) : Int)) 0 972 fp) 23 out (RS r0 ((q : Int)) ((a : Int)) ((((a + b) / 2 : Nat) : Int)) ((((a + b) / 2 : Nat) : Int)) 0 972 fp) 24 out := (rs_one (x := ⟨5, 3, 4, 0, 0⟩) (w := 87293952) hE hL (by omega) (by kernel_rfl) (by kernel_rfl) (fun s => d_addi (by omega) rfl rfl (by rw [show IntKind.wrap .u32 0 = 0 by kernel_rfl, wrap_u32 _ (by omega) (by omega)]; omega) rfl))
  have h14 : Rs ⟨E, rwL ++ X⟩ epc ca 1 (RS r0 ((q : Int)) ((a : Int)) ((((a + b) / 2 : Nat) : Int)) ((((a + b) / 2 : Nat) : Int)) 0 972 fp) 24 out (RS r0 ((q : Int)) ((a : Int)) ((((a + b) / 2 : Nat) : Int)) ((((a + b) / 2 : Nat) : Int)) 0 972 fp) 8 out := (rs_one (x := ⟨22, 0, 0, 0, -17⟩) (w := 385875951) hE hL (by omega) (by kernel_rfl) (by kernel_rfl) (fun s => by kernel_rfl))
  exact ((((((((((((((h0.trans h1).trans h2).trans h3).trans h4).trans h5).trans h6).trans h7).trans h8).trans h9).trans h10).trans h11).trans h12).trans h13).trans h14)
theorem blkN {f q : Nat} {n : Int} (hf : f < 10000) (hq : q < 10000) (g1 : (rwL ++ X)[f + 1]? = some ((4 * q + 4 : Nat) : Int)) (g0 : (rwL ++ X)[f]? = some n) : Rs ⟨E, rwL ++ X⟩ epc ca 5 (RS r0 r1 r2 r3 0 r5 r6 (((4 * f : Nat) : Int))) 29 out (RS r0 (((4 * q : Nat) : Int)) r2 r3 0 r5 r6 n) 3 out := by
  have h0 : Rs ⟨E, rwL ++ X⟩ epc ca 1 (RS r0 r1 r2 r3 0 r5 r6 (((4 * f : Nat) : Int))) 29 out (RS r0 r1 r2 r3 0 r5 r6 (((4 * f : Nat) : Int))) 30 out := (rs_one (x := ⟨21, 4, 0, 0, 4⟩) (w := 356515844) hE hL (by omega) (by kernel_rfl) (by kernel_rfl) (fun s => d_bnz_f (by omega) rfl rfl))
  have h1 : Rs ⟨E, rwL ++ X⟩ epc ca 1 (RS r0 r1 r2 r3 0 r5 r6 (((4 * f : Nat) : Int))) 30 out (RS r0 (((4 * q + 4 : Nat) : Int)) r2 r3 0 r5 r6 (((4 * f : Nat) : Int))) 31 out := (rs_one (x := ⟨18, 1, 13, 0, 4⟩) (w := 303890436) hE hL (by omega) (by kernel_rfl) (by kernel_rfl) (fun s => d_ldw (by omega) rfl rfl (u_load (k := f + 1) (by rw [show IntKind.wrap .u32 4 = 4 by kernel_rfl, wrap_u32 _ (by omega) (by omega)]; omega) hL g1) rfl))
  have h2 : Rs ⟨E, rwL ++ X⟩ epc ca 1 (RS r0 (((4 * q + 4 : Nat) : Int)) r2 r3 0 r5 r6 (((4 * f : Nat) : Int))) 31 out (RS r0 (((4 * q : Nat) : Int)) r2 r3 0 r5 r6 (((4 * f : Nat) : Int))) 32 out := (rs_one (x := ⟨5, 1, 1, 0, -4⟩) (w := 85065724) hE hL (by omega) (by kernel_rfl) (by kernel_rfl) (fun s => d_addi (by omega) rfl rfl (by rw [show IntKind.wrap .u32 (-4) = 4294967292 by kernel_rfl, wrap_mod32]; omega) rfl))
  have h3 : Rs ⟨E, rwL ++ X⟩ epc ca 1 (RS r0 (((4 * q : Nat) : Int)) r2 r3 0 r5 r6 (((4 * f : Nat) : Int))) 32 out (RS r0 (((4 * q : Nat) : Int)) r2 r3 0 r5 r6 n) 33 out := (rs_one (x := ⟨18, 13, 13, 0, 0⟩) (w := 316473344) hE hL (by omega) (by kernel_rfl) (by kernel_rfl) (fun s => d_ldw (by omega) rfl rfl (u_load (k := f) (by rw [show IntKind.wrap .u32 0 = 0 by kernel_rfl, wrap_u32 _ (by omega) (by omega)]; omega) hL g0) rfl))
  have h4 : Rs ⟨E, rwL ++ X⟩ epc ca 1 (RS r0 (((4 * q : Nat) : Int)) r2 r3 0 r5 r6 n) 33 out (RS r0 (((4 * q : Nat) : Int)) r2 r3 0 r5 r6 n) 3 out := (rs_one (x := ⟨22, 0, 0, 0, -31⟩) (w := 385875937) hE hL (by omega) (by kernel_rfl) (by kernel_rfl) (fun s => by kernel_rfl))
  exact ((((h0.trans h1).trans h2).trans h3).trans h4)
theorem blkP {p : Nat} (hp : 0 < p) : Rs ⟨E, rwL ++ X⟩ epc ca 2 (RS r0 r1 r2 r3 ((4 * p : Nat) : Int) r5 r6 fp) 29 out (RS r0 r1 r2 r3 ((4 * p : Nat) : Int) r5 r6 fp) p out := by
  have h0 : Rs ⟨E, rwL ++ X⟩ epc ca 1 (RS r0 r1 r2 r3 ((4 * p : Nat) : Int) r5 r6 fp) 29 out (RS r0 r1 r2 r3 ((4 * p : Nat) : Int) r5 r6 fp) 34 out := (rs_one (x := ⟨21, 4, 0, 0, 4⟩) (w := 356515844) hE hL (by omega) (by kernel_rfl) (by kernel_rfl) (fun s => d_bnz_t rfl rfl (by omega) (by kernel_rfl)))
  have h1 : Rs ⟨E, rwL ++ X⟩ epc ca 1 (RS r0 r1 r2 r3 ((4 * p : Nat) : Int) r5 r6 fp) 34 out (RS r0 r1 r2 r3 ((4 * p : Nat) : Int) r5 r6 fp) p out := (rs_one (x := ⟨24, 4, 0, 0, 0⟩) (w := 406847488) hE hL (by omega) (by kernel_rfl) (by kernel_rfl) (fun s => d_jr rfl rfl))
  exact h0.trans h1
theorem blkL {c : Int} : Rh ⟨E, rwL ++ X⟩ epc ca 2 (RS r0 r1 r2 r3 r4 r5 r6 fp) 35 [⟨2, c⟩] (RS r0 r1 r2 r3 r4 r5 r6 fp) 36 [⟨2, c⟩, ⟨5, IntKind.wrap .i32 r0⟩] := by
  have h0 : Rs ⟨E, rwL ++ X⟩ epc ca 1 (RS r0 r1 r2 r3 r4 r5 r6 fp) 35 [⟨2, c⟩] (RS r0 r1 r2 r3 r4 r5 r6 fp) 36 [⟨2, c⟩, ⟨5, IntKind.wrap .i32 r0⟩] := (rs_one (x := ⟨30, 0, 0, 0, 5⟩) (w := 503316485) hE hL (by omega) (by kernel_rfl) (by kernel_rfl) (fun s => by kernel_rfl))
  exact h0.halt (rh_one hE hL (by omega) (by kernel_rfl) rfl)
end
end Go.Proofs.Abs
/- What is raised goes on where the document says: the search, and the frames. -/
namespace Go.Proofs.Abs
open Go
set_option linter.unusedVariables false
set_option linter.unusedSimpArgs false
structure Segs (l : List T_api_Segment) : Prop where
  sorted : ∀ (i : Nat) (s s' : T_api_Segment), l[i]? = some s → l[i + 1]? = some s' → s.Start_ < s'.Start_
  rng : ∀ (i : Nat) (s : T_api_Segment), l[i]? = some s → 0 ≤ s.Start_ ∧ s.Start_ < 242 ∧ (s.Pad_ = -1 ∨ s.Pad_ = 35 ∨ 42 ≤ s.Pad_ ∧ s.Pad_ < 242)
  len : l.length ≤ 63
  first : l[0]? = some ⟨0, -1⟩
structure Tab (W : List Int) (l : List T_api_Segment) : Prop where
  n0 : W[242]? = some (l.length : Int)
  st : ∀ (i : Nat) (s : T_api_Segment), l[i]? = some s → W[243 + 2 * i]? = some (4 * s.Start_)
  pd : ∀ (i : Nat) (s : T_api_Segment), l[i]? = some s → W[244 + 2 * i]? = some (4 * (if s.Pad_ < 0 then 0 else s.Pad_))
/-- the segment that a word stands in -/
def Here (l : List T_api_Segment) (q : Int) (a : Nat) (s : T_api_Segment) : Prop := l[a]? = some s ∧ s.Start_ ≤ q ∧ ∀ s', l[a + 1]? = some s' → q < s'.Start_
theorem Segs.mono {l : List T_api_Segment} (S : Segs l) {a : Nat} {s : T_api_Segment} (h : l[a]? = some s) : ∀ (k i : Nat) (t : T_api_Segment), i + k = a → l[i]? = some t → t.Start_ ≤ s.Start_
  | 0, i, t, e, h1 => by
    have : i = a := by omega
    subst this
    rw [h] at h1; cases h1; omega
  | k + 1, i, t, e, h1 => by
    have ha := (List.getElem?_eq_some_iff.1 h).1
    have hi : i + 1 < l.length := by omega
    have h2 := List.getElem?_eq_getElem hi
    have := S.sorted i t _ h1 h2
    have := S.mono h k (i + 1) _ (by omega) h2
    omega
theorem find_eq {l : List T_api_Segment} (S : Segs l) {q : Int} {a : Nat} {s : T_api_Segment} (H : Here l q a s) : ref16_Find l q = some s.Pad_ := by
  obtain ⟨h1, h2, h3⟩ := H
  have ha := (List.getElem?_eq_some_iff.1 h1).1
  have hl := S.len
  have go : ∀ (k i : Nat) (p : Int), i + k = a + 1 → (k = 0 → p = s.Pad_) → loopO (fun (x : (Int × Int)) => ref16_Find_L1 l q x.1 x.2) (p, (i : Int)) = some s.Pad_ := by
    intro k
    induction k with
    | zero =>
      intro i p e hp
      have : i = a + 1 := by omega
      subst this
      rw [hp rfl]
      refine loopO_out ?_
      unfold ref16_Find_L1
      dsimp only
      by_cases hi : a + 1 < l.length
      · have g := List.getElem?_eq_getElem hi
        have := h3 _ g
        rw [if_pos (by simp; omega), gi_nat g, bind1_some, bind1_some, if_neg (by simp; omega)]
      · rw [if_neg (by simp; omega), bind1_some, if_neg (by simp)]
    | succ k ih =>
      intro i p e hp
      have hi : i < l.length := by omega
      have g := List.getElem?_eq_getElem hi
      have hm := S.mono h1 k i _ (by omega) g
      have step : ref16_Find_L1 l q p (i : Int) = some (.inl ((l[i]'hi).Pad_, ((i + 1 : Nat) : Int))) := by
        unfold ref16_Find_L1
        rw [if_pos (by simp; omega), gi_nat g, bind1_some, bind1_some, if_pos (by simp; omega), bind1_some, wr64 i (by omega)]
      rw [loopO_go (s' := ((l[i]'hi).Pad_, ((i + 1 : Nat) : Int))) step]
      refine ih (i + 1) _ (by omega) (fun h0 => ?_)
      have : i = a := by omega
      subst this
      rw [g] at h1; cases h1; rfl
  unfold ref16_Find
  have := go (a + 1) 0 (-1) (by omega) (by omega)
  have : loopO (fun (x : (Int × Int)) => ref16_Find_L1 l q x.1 x.2) (-1, 0) = _ := this
  rw [this, bind1_some]
section
variable {E : Arr 5 Int} {X : List Int} {epc ca : Int} {out : List T_api_Event} {l : List T_api_Segment} (hE : E.g 0 = 968) (hL : (rwL ++ X).length ≤ 20000) (S : Segs l) (T : Tab (rwL ++ X) l)
include hE hL S T
theorem search_ok {q : Nat} (hq : q < 242) {r0 fp : Int} : ∀ (n a b : Nat), b ≤ a + n → a < b → b ≤ l.length → (∃ s, l[a]? = some s ∧ s.Start_ ≤ q) → (∀ s, l[b]? = some s → (q : Int) < s.Start_) → ∀ r4 r5 : Int,
    ∃ (k c : Nat) (s : T_api_Segment) (r4' r5' : Int), k ≤ 15 * n ∧ Rs ⟨E, rwL ++ X⟩ epc ca k (RS r0 ((4 * q : Nat) : Int) (a : Int) (b : Int) r4 r5 972 fp) 8 out (RS r0 ((4 * q : Nat) : Int) (c : Int) ((c + 1 : Nat) : Int) r4' r5' 972 fp) 8 out ∧ Here l q c s
  | 0, a, b, h1, h2, _, _, _, _, _ => by omega
  | n + 1, a, b, h1, h2, h3, ⟨s, h4, h5⟩, h6, r4, r5 => by
    have hl := S.len
    by_cases hab : a + 1 = b
    · subst hab
      exact ⟨0, a, s, r4, r5, by omega, Rs.refl, h4, h5, h6⟩
    · have hm : (a + b) / 2 < l.length := by omega
      have g := List.getElem?_eq_getElem hm
      obtain ⟨p1, p2, _⟩ := S.rng _ _ g
      have ht : (rwL ++ X)[243 + 2 * ((a + b) / 2)]? = some (((4 * (l[(a + b) / 2]'hm).Start_.toNat : Nat) : Int)) := by
        rw [T.st _ _ g]; congr 1; omega
      by_cases hle : 4 * (l[(a + b) / 2]'hm).Start_.toNat ≤ 4 * q
      · obtain ⟨k, c, s', r4', r5', i1, i2, i3⟩ := search_ok hq n ((a + b) / 2) b (by omega) (by omega) h3 ⟨_, g, by omega⟩ h6 (((a + b) / 2 : Nat) : Int) 1
        exact ⟨15 + k, c, s', r4', r5', by omega, (blkU hE hL (by omega) (by omega) ht (by omega) (by omega) hle).trans i2, i3⟩
      · obtain ⟨k, c, s', r4', r5', i1, i2, i3⟩ := search_ok hq n a ((a + b) / 2) (by omega) (by omega) (by omega) ⟨s, h4, h5⟩ (fun s'' h => by rw [g] at h; cases h; omega) (((a + b) / 2 : Nat) : Int) 0
        exact ⟨15 + k, c, s', r4', r5', by omega, (blkD hE hL (by omega) (by omega) ht (by omega) (by omega) (by omega)).trans i2, i3⟩
/-- from `next` to where the pad is known -/
theorem frame_ok {q : Nat} (hq : q < 242) (r0 r2 r3 r4 r5 r6 fp : Int) : ∃ (k : Nat) (c : Int) (s : T_api_Segment) (r3' r5' : Int), k ≤ 960 ∧ Rs ⟨E, rwL ++ X⟩ epc ca k (RS r0 ((4 * q : Nat) : Int) r2 r3 r4 r5 r6 fp) 3 out (RS r0 ((4 * q : Nat) : Int) c r3' (4 * (if s.Pad_ < 0 then 0 else s.Pad_)) r5' 972 fp) 29 out ∧ ref16_Find l q = some s.Pad_ ∧ (s.Pad_ = -1 ∨ s.Pad_ = 35 ∨ 42 ≤ s.Pad_ ∧ s.Pad_ < 242) := by
  have hl := S.len
  have hf := (List.getElem?_eq_some_iff.1 S.first).1
  obtain ⟨k, c, s, r4', r5', h1, h2, h3⟩ := search_ok (epc := epc) (ca := ca) (out := out) hE hL S T hq (r0 := r0) (fp := fp) l.length 0 l.length (by omega) hf (by omega) ⟨_, S.first, by show (0 : Int) ≤ q; omega⟩ (fun s h => by rw [List.getElem?_eq_none (by omega)] at h; cases h) r4 r5
  have b := blkB (epc := epc) (ca := ca) (r0 := r0) (r1 := ((4 * q : Nat) : Int)) (r2 := r2) (r3 := r3) (r4 := r4) (r5 := r5) (r6 := r6) (fp := fp) (out := out) hE hL T.n0
  have hc := (List.getElem?_eq_some_iff.1 h3.1).1
  have f := blkF (epc := epc) (ca := ca) (r0 := r0) (r1 := ((4 * q : Nat) : Int)) (r4 := r4') (r5 := r5') (fp := fp) (out := out) hE hL (a := c) (b := c + 1) rfl (by omega) (T.pd _ _ h3.1)
  exact ⟨5 + k + 8, (c : Int), s, _, _, by omega, (b.trans h2).trans f, find_eq S h3, (S.rng _ _ h3.1).2.2⟩
/-- frames: where each goes back to -/
def Frames (W : List Int) (fb : Nat) (calls : List Int) : Prop := ∀ (i : Nat) (c : Int), calls[i]? = some c → 0 ≤ c ∧ c < 242 ∧ W[fb + 4 * i]? = some (4 * ((fb + 4 * (i + 1) : Nat) : Int)) ∧ W[fb + 4 * i + 1]? = some (4 * c + 4)
theorem unwind_ok {fb : Nat} {calls : List Int} (hfb : fb ≤ 1000) (hcl : calls.length ≤ 41) (F : Frames (rwL ++ X) fb calls) (hlast : calls[calls.length - 1]? = some 37) (h37 : ref16_Find l 37 = some 35) (r0 : Int) : ∀ (k i q : Nat), i + k = calls.length → q < 242 → (k = 0 → q = 37) → ∀ r2 r3 r4 r5 r6 : Int,
    ∃ (n j : Nat) (c r3' r5' : Int) (p : Nat) (q' : Int), n ≤ 1000 * (k + 1) ∧ Rs ⟨E, rwL ++ X⟩ epc ca n (RS r0 ((4 * q : Nat) : Int) r2 r3 r4 r5 r6 ((4 * (fb + 4 * i) : Nat) : Int)) 3 out (RS r0 q' c r3' ((4 * p : Nat) : Int) r5' 972 ((4 * (fb + 4 * j) : Nat) : Int)) 29 out ∧ loopO (fun (x : (Int × Int)) => ref24_Goes_L1 l calls x.1 x.2) ((q : Int), (i : Int)) = some ((p : Int), ((j : Nat) : Int)) ∧ (p = 35 ∨ 42 ≤ p ∧ p < 242) ∧ j ≤ calls.length
  | k, i, q, hk, hq, h0, r2, r3, r4, r5, r6 => by
    obtain ⟨n, c, s, r3', r5', h1, h2, h3, h4⟩ := frame_ok (epc := epc) (ca := ca) (out := out) hE hL S T hq r0 r2 r3 r4 r5 r6 ((4 * (fb + 4 * i) : Nat) : Int)
    by_cases hp : s.Pad_ = -1
    · cases k with
      | zero =>
        have := h0 rfl
        subst this
        have : ref16_Find l 37 = some s.Pad_ := h3
        rw [h37] at this
        have := Option.some.inj this
        omega
      | succ k =>
        have hi : i < calls.length := by omega
        have g := List.getElem?_eq_getElem hi
        obtain ⟨c0, c1, f0, f1⟩ := F _ _ g
        obtain ⟨c', hc'⟩ : ∃ c' : Nat, calls[i]'hi = c' := ⟨(calls[i]'hi).toNat, by omega⟩
        rw [hc'] at f1 g
        obtain ⟨n2, j, c2, r3'', r5'', p, q', i1, i2, i3, i4, i5⟩ := unwind_ok hfb hcl F hlast h37 r0 k (i + 1) c' (by omega) (by omega) (fun hk0 => by
          have : i = calls.length - 1 := by omega
          rw [← this, g] at hlast
          cases hlast; rfl) c r3' 0 r5' 972
        have bn := blkN (epc := epc) (ca := ca) (r0 := r0) (r1 := ((4 * q : Nat) : Int)) (r2 := c) (r3 := r3') (r5 := r5') (r6 := 972) (out := out) hE hL (f := fb + 4 * i) (q := c') (by omega) (by omega) (by rw [f1]; congr 1) f0
        rw [hp] at h2
        refine ⟨n + 5 + n2, j, c2, r3'', r5'', p, q', by omega, (h2.trans ?_).trans i2, ?_, i4, i5⟩
        · have e : (4 * ((fb + 4 * (i + 1) : Nat) : Int)) = ((4 * (fb + 4 * (i + 1)) : Nat) : Int) := by omega
          rw [e] at bn
          exact bn
        · have step : ref24_Goes_L1 l calls (q : Int) (i : Int) = some (.inl ((c' : Int), ((i + 1 : Nat) : Int))) := by
            unfold ref24_Goes_L1
            rw [h3, bind1_some, hp, if_neg (by decide), if_neg (by simp; omega), gi_nat g, bind1_some, wr64 i (by omega)]
          rw [loopO_go (s' := ((c' : Int), ((i + 1 : Nat) : Int))) step]
          exact i3
    · obtain ⟨p, hp'⟩ : ∃ p : Nat, s.Pad_ = p := ⟨s.Pad_.toNat, by omega⟩
      have e : (4 * (if s.Pad_ < 0 then 0 else s.Pad_)) = ((4 * p : Nat) : Int) := by rw [if_neg (by omega)]; omega
      rw [e] at h2
      refine ⟨n, i, c, r3', r5', p, _, by omega, h2, ?_, by omega, by omega⟩
      refine loopO_out ?_
      unfold ref24_Goes_L1
      rw [h3, bind1_some, if_pos (by simp; exact hp), hp']
end
end Go.Proofs.Abs
/- The memory that the runtime runs in. -/
namespace Go.Proofs.Abs
open Go
set_option linter.unusedVariables false
set_option linter.unusedSimpArgs false
set_option maxRecDepth 100000
def tbE (s : T_api_Segment) : List Int := [4 * s.Start_, 4 * (if s.Pad_ < 0 then 0 else s.Pad_)]
def tabW (l : List T_api_Segment) : List Int := (l.length : Int) :: (l.map tbE).flatten
theorem tb_len (l : List T_api_Segment) : (l.map tbE).flatten.length = 2 * l.length := by
  induction l with
  | nil => rfl
  | cons s l ih => rw [List.map_cons, List.flatten_cons, List.length_append, ih]; simp [tbE]; omega
theorem tab_len (l : List T_api_Segment) : (tabW l).length = 1 + 2 * l.length := by unfold tabW; rw [List.length_cons, tb_len]; omega
theorem tb_get : ∀ (l : List T_api_Segment) (i : Nat) (s : T_api_Segment), l[i]? = some s → (l.map tbE).flatten[2 * i]? = some (4 * s.Start_) ∧ (l.map tbE).flatten[2 * i + 1]? = some (4 * (if s.Pad_ < 0 then 0 else s.Pad_))
  | [], i, s, h => by simp at h
  | t :: l, 0, s, h => by simp at h; subst h; exact ⟨rfl, rfl⟩
  | t :: l, i + 1, s, h => by
    have := tb_get l i s (by simpa using h)
    rw [List.map_cons, List.flatten_cons]
    exact this
theorem table_eq {l : List T_api_Segment} (S : Segs l) : runtime_Table l = some (tabW l) := by
  have hl := S.len
  have go : ∀ (k i : Nat), i + k = l.length → loopO (fun (x : ((List Int) × Int)) => runtime_Table_L1 l x.1 x.2) ((l.length : Int) :: ((l.take i).map tbE).flatten, (i : Int)) = some (tabW l) := by
    intro k
    induction k with
    | zero =>
      intro i h
      have : i = l.length := by omega
      subst this
      refine loopO_out ?_
      unfold runtime_Table_L1
      dsimp only
      rw [if_neg (by simp), List.take_length]; rfl
    | succ k ih =>
      intro i h
      have hi : i < l.length := by omega
      have g := List.getElem?_eq_getElem hi
      obtain ⟨p1, p2, p3⟩ := S.rng _ _ g
      have step : runtime_Table_L1 l ((l.length : Int) :: ((l.take i).map tbE).flatten) (i : Int) = some (.inl ((l.length : Int) :: ((l.take (i + 1)).map tbE).flatten, ((i + 1 : Nat) : Int))) := by
        unfold runtime_Table_L1
        have e : (if (l[i]'hi).Pad_ > 0 then (l[i]'hi).Pad_ else 0) = (if (l[i]'hi).Pad_ < 0 then 0 else (l[i]'hi).Pad_) := by split <;> split <;> omega
        have e2 : 0 ≤ (if (l[i]'hi).Pad_ < 0 then 0 else (l[i]'hi).Pad_) ∧ (if (l[i]'hi).Pad_ < 0 then 0 else (l[i]'hi).Pad_) < 242 := by split <;> omega
        rw [if_pos (by simp; omega), gi_nat g, bind1_some, e, wrap_i64 _ (by omega) (by omega), wrap_u32 _ (by omega) (by omega), wrap_i64 _ (by omega) (by omega), wrap_u32 _ (by omega) (by omega), app_some (by rw [List.length_cons, tb_len, List.length_take]; simp; omega), bind1_some, wr64 i (by omega), List.take_succ_eq_append_getElem hi, List.map_append, List.flatten_append]
        rfl
      rw [loopO_go (s' := ((l.length : Int) :: ((l.take (i + 1)).map tbE).flatten, ((i + 1 : Nat) : Int))) step]
      exact ih (i + 1) (by omega)
  unfold runtime_Table
  rw [wrap_u32 _ (by omega) (by omega)]
  have := go l.length 0 (by omega)
  have : loopO (fun (x : ((List Int) × Int)) => runtime_Table_L1 l x.1 x.2) ([(l.length : Int)], 0) = _ := this
  rw [this, bind1_some]
theorem uset_len {W ys : List Int} {k : Nat} (h : k + ys.length ≤ W.length) : (setAt W k ys).length = W.length := by
  simp only [setAt, List.length_append, List.length_take, List.length_drop]; omega
theorem uset_get {W ys : List Int} {k j : Nat} (h : k + ys.length ≤ W.length) : (setAt W k ys)[j]? = if k ≤ j ∧ j < k + ys.length then ys[j - k]? else W[j]? := by
  simp only [setAt, List.getElem?_append, List.length_append, List.length_take, List.getElem?_take, List.getElem?_drop]
  grind
def M1 (L n : Nat) (W : List Int) : Prop := W.length = L ∧ (∀ j, j < 42 → W[j]? = rwL[j]?) ∧ ∀ j, 42 ≤ j → j < 42 + n → W[j]? = some 16777216
def M2 (L : Nat) (tb W : List Int) : Prop := M1 L 200 W ∧ ∀ j, j < tb.length → W[242 + j]? = tb[j]?
def M3 (L : Nat) (tb : List Int) (fb : Nat) (calls : List Int) (n : Nat) (W : List Int) : Prop := M2 L tb W ∧ ∀ (i : Nat) (c : Int), i < n → calls[i]? = some c → W[fb + 4 * i]? = some (4 * ((fb + 4 * (i + 1) : Nat) : Int)) ∧ W[fb + 4 * i + 1]? = some (4 * c + 4)
section
variable {E : Arr 5 Int} {L : Nat} {x : T_runtime_Image}
theorem mem_L1 (hx : x.Words_.length = 42) {tb : List Int} (ht : tb.length ≤ 1000) (h0 : 242 ≤ L) (hL : L ≤ 20000) : ∀ (k i : Nat) (W : List Int), i + k = 200 → M1 L i W → ∃ W', M1 L 200 W' ∧ loopO (fun (y : Int × T_ref03_Mem) => law24_memory_L1 x tb y.1 y.2) ((i : Int), ⟨E, W⟩) = some (968, 4 * ((242 + tb.length : Nat) : Int), ⟨E, W'⟩)
  | 0, i, W, hk, M => by
    have : i = 200 := by omega
    subst this
    refine ⟨W, M, loopO_out ?_⟩
    unfold law24_memory_L1
    dsimp only
    rw [if_neg (by simp), hx, show IntKind.wrap .u32 (IntKind.wrap .i64 (4 * IntKind.wrap .i64 (((42 : Nat) : Int) + 200))) = 968 by kernel_rfl, wrap_i64 _ (by omega) (by omega), wrap_u32 (4 * (tb.length : Int)) (by omega) (by omega), wrap_u32 _ (by omega) (by omega), show (968 + 4 * (tb.length : Int)) = 4 * ((242 + tb.length : Nat) : Int) by omega]
  | k + 1, i, W, hk, M => by
    obtain ⟨m1, m2, m3⟩ := M
    have step : law24_memory_L1 x tb (i : Int) ⟨E, W⟩ = some (.inl (((i + 1 : Nat) : Int), ⟨E, setAt W (42 + i) [16777216]⟩)) := by
      unfold law24_memory_L1
      rw [if_pos (by simp; omega), hx, wrap_i64 (((42 : Nat) : Int) + i) (by omega) (by omega), wrap_i64 _ (by omega) (by omega), wrap_u32 _ (by omega) (by omega), show 4 * (((42 : Nat) : Int) + (i : Int)) = 4 * ((42 + i : Nat) : Int) by omega, u_fill (42 + i) (by simp; omega) (by omega), bind2_some, wr64 i (by omega)]
    have hs : 42 + i + ([16777216] : List Int).length ≤ W.length := by simp; omega
    have M' : M1 L (i + 1) (setAt W (42 + i) [16777216]) := by
      refine ⟨by rw [uset_len hs, m1], fun j hj => ?_, fun j h1 h2 => ?_⟩
      · rw [uset_get hs, if_neg (by omega), m2 j hj]
      · rw [uset_get hs]
        by_cases hj : j = 42 + i
        · subst hj; simp
        · rw [if_neg (by simp; omega), m3 j h1 (by omega)]
    obtain ⟨W', h1, h2⟩ := mem_L1 hx ht h0 hL k (i + 1) _ (by omega) M'
    refine ⟨W', h1, ?_⟩
    rw [loopO_go (s' := (((i + 1 : Nat) : Int), ⟨E, setAt W (42 + i) [16777216]⟩)) step]
    exact h2
def atsL (fb n : Nat) : List Int := (List.range n).map fun j => 4 * ((fb + 4 * j : Nat) : Int)
theorem ats_len (fb n : Nat) : (atsL fb n).length = n := by simp [atsL]
theorem ats_get {fb n j : Nat} (h : j < n) : (atsL fb n)[j]? = some (4 * ((fb + 4 * j : Nat) : Int)) := by
  unfold atsL; rw [List.getElem?_map, List.getElem?_range h]; rfl
theorem mem_L2 {calls : List Int} {fb : Nat} (hf : fb ≤ 1000) (hn : calls.length ≤ 41) : ∀ (k i : Nat), i + k = calls.length + 1 → loopO (fun (y : List Int × Int) => law24_memory_L2 calls (4 * (fb : Int)) y.1 y.2) (atsL fb i, (i : Int)) = some (atsL fb (calls.length + 1))
  | 0, i, hk => by
    have : i = calls.length + 1 := by omega
    subst this
    refine loopO_out ?_
    unfold law24_memory_L2
    dsimp only
    rw [if_neg (by simp; omega)]
  | k + 1, i, hk => by
    have step : law24_memory_L2 calls (4 * (fb : Int)) (atsL fb i) (i : Int) = some (.inl (atsL fb (i + 1), ((i + 1 : Nat) : Int))) := by
      unfold law24_memory_L2
      rw [if_pos (by simp; omega), wrap_i64 (16 * (i : Int)) (by omega) (by omega), wrap_u32 (16 * (i : Int)) (by omega) (by omega), wrap_u32 _ (by omega) (by omega), app_some (by rw [ats_len]; simp; omega), bind1_some, wr64 i (by omega), show 4 * (fb : Int) + 16 * (i : Int) = 4 * ((fb + 4 * i : Nat) : Int) by omega]
      unfold atsL
      rw [List.range_succ, List.map_append]; rfl
    rw [loopO_go (s' := (atsL fb (i + 1), ((i + 1 : Nat) : Int))) step]
    exact mem_L2 hf hn k (i + 1) (by omega)
theorem mem_L3 {calls tb : List Int} (ht : tb.length ≤ 200) (hn : calls.length ≤ 41) (hc : ∀ (i : Nat) (c : Int), calls[i]? = some c → 0 ≤ c ∧ c < 242) (hL : L = 242 + tb.length + 4 * calls.length + 16) : ∀ (k i : Nat) (W : List Int), i + k = calls.length → M3 L tb (242 + tb.length) calls i W → ∃ W', M3 L tb (242 + tb.length) calls calls.length W' ∧ loopO (fun (y : Int × T_ref03_Mem) => law24_memory_L3 calls (atsL (242 + tb.length) (calls.length + 1)) y.1 y.2) ((i : Int), ⟨E, W⟩) = some ⟨E, W'⟩
  | 0, i, W, hk, M => by
    have : i = calls.length := by omega
    subst this
    refine ⟨W, M, loopO_out ?_⟩
    unfold law24_memory_L3
    dsimp only
    rw [if_neg (by simp)]
  | k + 1, i, W, hk, M => by
    obtain ⟨⟨⟨m1, m2, m3⟩, m4⟩, m5⟩ := M
    have hi : i < calls.length := by omega
    have g := List.getElem?_eq_getElem hi
    obtain ⟨c0, c1⟩ := hc _ _ g
    have step : law24_memory_L3 calls (atsL (242 + tb.length) (calls.length + 1)) (i : Int) ⟨E, W⟩ = some (.inl (((i + 1 : Nat) : Int), ⟨E, setAt W (242 + tb.length + 4 * i) [4 * ((242 + tb.length + 4 * (i + 1) : Nat) : Int), 4 * (calls[i]'hi) + 4]⟩)) := by
      unfold law24_memory_L3
      rw [if_pos (by simp; omega), gi_nat (ats_get (by omega)), bind1_some, wr64 i (by omega), gi_nat (ats_get (by omega)), bind1_some, gi_nat g, bind1_some, wrap_i64 (4 * (calls[i]'hi)) (by omega) (by omega), wrap_i64 _ (by omega) (by omega), wrap_u32 _ (by omega) (by omega), u_fill (242 + tb.length + 4 * i) (by simp; omega) (by omega), bind2_some]
    have hs : 242 + tb.length + 4 * i + ([4 * ((242 + tb.length + 4 * (i + 1) : Nat) : Int), 4 * (calls[i]'hi) + 4] : List Int).length ≤ W.length := by simp; omega
    have M' : M3 L tb (242 + tb.length) calls (i + 1) (setAt W (242 + tb.length + 4 * i) [4 * ((242 + tb.length + 4 * (i + 1) : Nat) : Int), 4 * (calls[i]'hi) + 4]) := by
      refine ⟨⟨⟨by rw [uset_len hs, m1], fun j hj => ?_, fun j h1 h2 => ?_⟩, fun j hj => ?_⟩, fun i' c hi' hg => ?_⟩
      · rw [uset_get hs, if_neg (by omega), m2 j hj]
      · rw [uset_get hs, if_neg (by omega), m3 j h1 h2]
      · rw [uset_get hs, if_neg (by omega), m4 j hj]
      · by_cases e : i' = i
        · subst e
          rw [g] at hg
          cases hg
          rw [uset_get hs, if_pos (by simp), uset_get hs, if_pos (by simp)]
          exact ⟨by simp, by simp⟩
        · have := m5 i' c (by omega) hg
          rw [uset_get hs, if_neg (by omega), uset_get hs, if_neg (by omega)]
          exact this
    obtain ⟨W', h1, h2⟩ := mem_L3 ht hn hc hL k (i + 1) _ (by omega) M'
    refine ⟨W', h1, ?_⟩
    rw [loopO_go (s' := (((i + 1 : Nat) : Int), ⟨E, setAt W (242 + tb.length + 4 * i) [4 * ((242 + tb.length + 4 * (i + 1) : Nat) : Int), 4 * (calls[i]'hi) + 4]⟩)) step]
    exact h2
end
theorem memory_ok (p : T_law24_Case) {l : List T_api_Segment} (S : Segs l) {calls : List Int} (hn : calls.length ≤ 41) (hc : ∀ (i : Nat) (c : Int), calls[i]? = some c → 0 ≤ c ∧ c < 242) :
    ∃ (E : Arr 5 Int) (W : List Int), law24_memory p ⟨rtAll 0, 3, 37, callsS 0, 35, 37⟩ l calls = some (⟨E, W⟩, atsL (242 + (tabW l).length) (calls.length + 1)) ∧ E.g 0 = 968 ∧ M3 (242 + (tabW l).length + 4 * calls.length + 16) (tabW l) (242 + (tabW l).length) calls calls.length W := by
  have hl := S.len
  have htl := tab_len l
  have hrl := rtAll_len 0
  have w0 : IntKind.wrap .u32 (IntKind.wrap .i64 (4 * IntKind.wrap .i64 (((42 : Nat) : Int) + 200))) = 968 := by kernel_rfl
  have hrw : rwL.length = 42 := by kernel_rfl
  unfold law24_memory
  dsimp only
  rw [hrl, table_eq S, bind1_some]
  rw [show 42 + 4 * 0 = 42 from rfl, w0, wrap_i64 (4 * ((tabW l).length : Int)) (by omega) (by omega), wrap_u32 (4 * ((tabW l).length : Int)) (by omega) (by omega), wrap_u32 (968 + 4 * ((tabW l).length : Int)) (by omega) (by omega), wrap_i64 (16 * (calls.length : Int)) (by omega) (by omega), wrap_i64 _ (by omega) (by omega), wrap_u32 (16 * (calls.length : Int) + 64) (by omega) (by omega), wrap_u32 _ (by omega) (by omega)]
  generalize hE : (arrL [(968 : Int), 968 + 4 * ((tabW l).length : Int), 968 + 4 * ((tabW l).length : Int), 968 + 4 * ((tabW l).length : Int), 968 + 4 * ((tabW l).length : Int) + (16 * (calls.length : Int) + 64)] : Arr 5 Int) = E
  have hE0 : E.g 0 = 968 := by rw [← hE]; rfl
  have hE4 : E.g 4 = 968 + 4 * ((tabW l).length : Int) + (16 * (calls.length : Int) + 64) := by rw [← hE]; rfl
  have hnew : ref03_New E = some ⟨E, List.replicate (242 + (tabW l).length + 4 * calls.length + 16) 0⟩ := by
    unfold ref03_New
    have hb := u_room
    rw [hE4, tdiv_pos (by omega), wrap_u32 _ (by omega) (by omega), show (968 + 4 * ((tabW l).length : Int) + (16 * (calls.length : Int) + 64)) / 4 = ((242 + (tabW l).length + 4 * calls.length + 16 : Nat) : Int) by omega]
    unfold mks
    rw [if_pos ⟨by omega, by omega, by omega, by omega⟩, bind1_some, Int.toNat_natCast]
  rw [hnew, bind1_some, rw_eq, bind1_some]
  have hf0 := u_fill (E := E) (W := List.replicate (242 + (tabW l).length + 4 * calls.length + 16) 0) (l := rwL) 0 (by simp [hrw]; omega) (by simp; omega)
  have hf0 : ref03_Fill ⟨E, List.replicate (242 + (tabW l).length + 4 * calls.length + 16) 0⟩ 0 rwL = _ := hf0
  rw [hf0, bind2_some]
  have hs0 : 0 + rwL.length ≤ (List.replicate (242 + (tabW l).length + 4 * calls.length + 16) (0 : Int)).length := by simp [hrw]; omega
  have i0 : M1 (242 + (tabW l).length + 4 * calls.length + 16) 0 (setAt (List.replicate (242 + (tabW l).length + 4 * calls.length + 16) 0) 0 rwL) :=
    ⟨by rw [uset_len hs0]; simp, fun j hj => by rw [uset_get hs0, if_pos (by omega)]; rfl, fun j h1 h2 => by omega⟩
  obtain ⟨W1, i1, e1⟩ := mem_L1 (E := E) (x := ⟨rtAll 0, 3, 37, callsS 0, 35, 37⟩) hrl (tb := tabW l) (by omega) (by omega) (by omega) 200 0 _ rfl i0
  have e1 : loopO (fun (x : (Int × T_ref03_Mem)) => law24_memory_L1 ⟨rtAll 0, 3, 37, callsS 0, 35, 37⟩ (tabW l) x.1 x.2) (0, ⟨E, setAt (List.replicate (242 + (tabW l).length + 4 * calls.length + 16) 0) 0 rwL⟩) = _ := e1
  rw [e1, bind1_some]
  show ∃ (E : Arr 5 Int) (W : List Int), bind2 _ _ = _ ∧ _
  have hf1 := u_fill (E := E) (W := W1) (l := tabW l) 242 (by rw [i1.1]; omega) (by rw [i1.1]; omega)
  have hf1 : ref03_Fill ⟨E, W1⟩ 968 (tabW l) = _ := hf1
  rw [hf1, bind2_some]
  have hs1 : 242 + (tabW l).length ≤ W1.length := by rw [i1.1]; omega
  have i2 : M3 (242 + (tabW l).length + 4 * calls.length + 16) (tabW l) (242 + (tabW l).length) calls 0 (setAt W1 242 (tabW l)) :=
    ⟨⟨⟨by rw [uset_len hs1, i1.1], fun j hj => by rw [uset_get hs1, if_neg (by omega), i1.2.1 j hj], fun j h1 h2 => by rw [uset_get hs1, if_neg (by omega), i1.2.2 j h1 h2]⟩, fun j hj => by rw [uset_get hs1, if_pos (by omega), Nat.add_sub_cancel_left]⟩, fun i c h => by omega⟩
  have e2 := mem_L2 (calls := calls) (fb := 242 + (tabW l).length) (by omega) hn (calls.length + 1) 0 (by omega)
  have e2 : loopO (fun (x : ((List Int) × Int)) => law24_memory_L2 calls (4 * ((242 + (tabW l).length : Nat) : Int)) x.1 x.2) (([] : List Int), 0) = _ := e2
  rw [e2, bind1_some]
  obtain ⟨W2, i3, e3⟩ := mem_L3 (E := E) (tb := tabW l) (by omega) hn hc rfl calls.length 0 _ (by omega) i2
  have e3 : loopO (fun (x : (Int × T_ref03_Mem)) => law24_memory_L3 calls (atsL (242 + (tabW l).length) (calls.length + 1)) x.1 x.2) (0, ⟨E, setAt W1 242 (tabW l)⟩) = _ := e3
  rw [e3, bind1_some]
  exact ⟨E, W2, rfl, hE0, i3⟩
end Go.Proofs.Abs
/- Printed by gen (walk.py). -/
namespace Go.Proofs.Abs
open Go Go.Proofs
set_option linter.unusedVariables false
set_option maxRecDepth 100000
set_option maxHeartbeats 0
def wf_api_Segment (x : T_api_Segment) : Prop := (fun n => (Lit.int .i64 n).wf = true) x.Start_ ∧ (fun n => (Lit.int .i64 n).wf = true) x.Pad_
theorem opens_api_Segment : Opens Tryd.prog 63 e_api_Segment wf_api_Segment := fun H enc w fuel cs x h => by
  obtain ⟨xs, n, _, _, hl, hxl, hp⟩ := DataW.trod_struct Tryd.underlying63 h
  have hl : cs.length = 2 := by rw [hl]; kernel_rfl
  obtain ⟨a0, w0, r0⟩ := part_of (i := 0) rfl hxl hp (opens_int Tryd.underlying3)
  obtain ⟨a1, w1, r1⟩ := part_of (i := 1) rfl hxl hp (opens_int Tryd.underlying3)
  exact ⟨⟨a0, a1⟩, ⟨w0, w1⟩, (reads_step (o := 0) (z := 1) r0 (reads_step (o := 1) (z := 1) r1 (reads_end (o := 2) (by rw [hl]; exact Nat.le_refl _))))⟩
def wf_law24_Case (x : T_law24_Case) : Prop := (fun xs => (∀ x, x ∈ xs → wf_api_Segment x) ∧ xs.length ≤ maxLen) x.Segments_ ∧ (fun n => (Lit.int .u8 n).wf = true) x.At_ ∧ (fun xs => (∀ x, x ∈ xs → (fun n => (Lit.int .u8 n).wf = true) x) ∧ xs.length ≤ maxLen) x.Calls_ ∧ (fun n => (Lit.int .i32 n).wf = true) x.Exc_
theorem opens_law24_Case : Opens Tryd.prog 41 e_law24_Case wf_law24_Case := fun H enc w fuel cs x h => by
  obtain ⟨xs, n, _, _, hl, hxl, hp⟩ := DataW.trod_struct Tryd.underlying41 h
  have hl : cs.length = 4 := by rw [hl]; kernel_rfl
  obtain ⟨a0, w0, r0⟩ := part_of (i := 0) rfl hxl hp (opens_slice (z := 2) Tryd.underlying38 (by kernel_rfl) (by kernel_rfl) (fun _ => rfl) opens_api_Segment)
  obtain ⟨a1, w1, r1⟩ := part_of (i := 1) rfl hxl hp (opens_int Tryd.underlying5)
  obtain ⟨a2, w2, r2⟩ := part_of (i := 2) rfl hxl hp (opens_slice (z := 1) Tryd.underlying39 (by kernel_rfl) (by kernel_rfl) (fun _ => rfl) (opens_int Tryd.underlying5))
  obtain ⟨a3, w3, r3⟩ := part_of (i := 3) rfl hxl hp (opens_int Tryd.underlying21)
  exact ⟨⟨a0, a1, a2, a3⟩, ⟨w0, w1, w2, w3⟩, (reads_step (o := 0) (z := 1) r0 (reads_step (o := 1) (z := 1) r1 (reads_step (o := 2) (z := 1) r2 (reads_step (o := 3) (z := 1) r3 (reads_end (o := 4) (by rw [hl]; exact Nat.le_refl _))))))⟩
/-- the statement, in plain Lean -/
def RuntimeUnwindsPure : Prop := ∀ (p0 : T_law24_Case), wf_law24_Case p0 → law24_RuntimeUnwinds p0 = some true
end Go.Proofs.Abs
/- What is raised goes on where the document says. -/
namespace Go.Proofs.Abs
open Go
set_option linter.unusedVariables false
set_option linter.unusedSimpArgs false
set_option maxRecDepth 100000
theorem wf_u8' {n : Int} : (Lit.int .u8 n).wf = true ↔ 0 ≤ n ∧ n ≤ 255 := by
  simp [Lit.wf, IntKind.min, IntKind.max, IntKind.signed, IntKind.bits]
theorem wf_i32' {n : Int} : (Lit.int .i32 n).wf = true ↔ -2147483648 ≤ n ∧ n ≤ 2147483647 := by
  simp [Lit.wf, IntKind.min, IntKind.max, IntKind.signed, IntKind.bits]
structure Seg3 (l : List T_api_Segment) (last : Int) (i : Nat) : Prop where
  sorted : ∀ (i : Nat) (s s' : T_api_Segment), l[i]? = some s → l[i + 1]? = some s' → s.Start_ < s'.Start_
  rng : ∀ (i : Nat) (s : T_api_Segment), l[i]? = some s → 0 ≤ s.Start_ ∧ s.Start_ < 242 ∧ (s.Pad_ = -1 ∨ s.Pad_ = 35 ∨ 42 ≤ s.Pad_ ∧ s.Pad_ < 242)
  len : l.length ≤ 3 + i
  len3 : 3 ≤ l.length
  first : l[0]? = some ⟨0, -1⟩
  lost : l[1]? = some ⟨37, 35⟩
  third : l[2]? = some ⟨42, -1⟩
  last0 : 0 ≤ last
  lastS : ∀ s, l[l.length - 1]? = some s → s.Start_ = 42 + last
theorem Seg3.next {l : List T_api_Segment} {last : Int} {i : Nat} (G : Seg3 l last i) : Seg3 l last (i + 1) := { G with len := by have := G.len; omega }
theorem Seg3.app {l : List T_api_Segment} {last st pad : Int} {i : Nat} (G : Seg3 l last i) (h1 : last < st) (h2 : st < 200) (hp : pad = -1 ∨ 42 ≤ pad ∧ pad < 242) : Seg3 (l ++ [⟨42 + st, pad⟩]) st (i + 1) := by
  have h3 := G.len3
  have h0 := G.last0
  have hl := G.len
  refine ⟨fun j s s' a b => ?_, fun j s a => ?_, by simp; omega, by simp; omega, ?_, ?_, ?_, by omega, fun s a => ?_⟩
  · by_cases hj : j + 1 < l.length
    · rw [List.getElem?_append_left (by omega)] at a b
      exact G.sorted j s s' a b
    · have hb := (List.getElem?_eq_some_iff.1 b).1
      simp at hb
      have : j = l.length - 1 := by omega
      subst this
      rw [List.getElem?_append_left (by omega)] at a
      rw [List.getElem?_append_right (by omega), show l.length - 1 + 1 - l.length = 0 by omega] at b
      cases b
      have := G.lastS s a
      show s.Start_ < 42 + st
      omega
  · by_cases hj : j < l.length
    · rw [List.getElem?_append_left hj] at a
      exact G.rng j s a
    · have hb := (List.getElem?_eq_some_iff.1 a).1
      simp at hb
      rw [List.getElem?_append_right (by omega), show j - l.length = 0 by omega] at a
      cases a
      show 0 ≤ 42 + st ∧ 42 + st < 242 ∧ (pad = -1 ∨ pad = 35 ∨ 42 ≤ pad ∧ pad < 242)
      omega
  · rw [List.getElem?_append_left (by omega)]; exact G.first
  · rw [List.getElem?_append_left (by omega)]; exact G.lost
  · rw [List.getElem?_append_left (by omega)]; exact G.third
  · rw [List.length_append, List.getElem?_append_right (by simp), show l.length + [({ Start_ := 42 + st, Pad_ := pad } : T_api_Segment)].length - 1 - l.length = 0 by simp] at a
    cases a; rfl
theorem segs_loop {p : T_law24_Case} {x : T_runtime_Image} (hx : x.Words_.length = 42) : ∀ (k i : Nat) (l : List T_api_Segment) (last : Int), i + k = min p.Segments_.length 60 → Seg3 l last i → ∃ l' last', loopO (fun (y : ((List T_api_Segment) × Int × Int)) => law24_segments_L1 p x y.1 y.2.1 y.2.2) (l, last, (i : Int)) = some l' ∧ Seg3 l' last' 60
  | 0, i, l, last, hk, G => by
    refine ⟨l, last, loopO_out ?_, { G with len := by have := G.len; omega }⟩
    unfold law24_segments_L1
    dsimp only
    rw [if_neg (by simp; omega)]
  | k + 1, i, l, last, hk, G => by
    have hi : i < p.Segments_.length := by omega
    have g := List.getElem?_eq_getElem hi
    have hl := G.len
    have h0 := G.last0
    have ap : ∀ s : T_api_Segment, app 16 l [s] = some (l ++ [s]) := fun s => app_some (by simp; omega)
    by_cases c : (p.Segments_[i]'hi).Start_ ≤ last ∨ (p.Segments_[i]'hi).Start_ ≥ 200
    · obtain ⟨l', last', h1, h2⟩ := segs_loop (p := p) hx k (i + 1) l last (by omega) G.next
      refine ⟨l', last', ?_, h2⟩
      rw [loopO_go (s' := (l, last, ((i + 1 : Nat) : Int)))]
      · exact h1
      · show law24_segments_L1 p x l last (i : Int) = _
        unfold law24_segments_L1 law24_segments_j2
        rw [if_pos (by simp; omega), gi_nat g, bind1_some, if_pos (by simpa using c), wr64 i (by omega)]
    · have c1 : last < (p.Segments_[i]'hi).Start_ := by omega
      have c2 : (p.Segments_[i]'hi).Start_ < 200 := by omega
      by_cases d : 0 ≤ (p.Segments_[i]'hi).Pad_ ∧ (p.Segments_[i]'hi).Pad_ < 200
      · obtain ⟨l', last', h1, h2⟩ := segs_loop (p := p) hx k (i + 1) _ _ (by omega) (G.app (pad := 42 + (p.Segments_[i]'hi).Pad_) c1 c2 (by omega))
        refine ⟨l', last', ?_, h2⟩
        rw [loopO_go (s' := (l ++ [⟨42 + (p.Segments_[i]'hi).Start_, 42 + (p.Segments_[i]'hi).Pad_⟩], (p.Segments_[i]'hi).Start_, ((i + 1 : Nat) : Int)))]
        · exact h1
        · show law24_segments_L1 p x l last (i : Int) = _
          unfold law24_segments_L1 law24_segments_j3 law24_segments_j2
          rw [if_pos (by simp; omega), gi_nat g, bind1_some, if_neg (by simpa using c), if_pos (by simpa using d), hx, wrap_i64 (((42 : Nat) : Int) + (p.Segments_[i]'hi).Pad_) (by omega) (by omega), wrap_i64 (((42 : Nat) : Int) + (p.Segments_[i]'hi).Start_) (by omega) (by omega), ap, bind1_some, wr64 i (by omega)]
          rfl
      · obtain ⟨l', last', h1, h2⟩ := segs_loop (p := p) hx k (i + 1) _ _ (by omega) (G.app (pad := -1) c1 c2 (by omega))
        refine ⟨l', last', ?_, h2⟩
        rw [loopO_go (s' := (l ++ [⟨42 + (p.Segments_[i]'hi).Start_, -1⟩], (p.Segments_[i]'hi).Start_, ((i + 1 : Nat) : Int)))]
        · exact h1
        · show law24_segments_L1 p x l last (i : Int) = _
          unfold law24_segments_L1 law24_segments_j3 law24_segments_j2
          rw [if_pos (by simp; omega), gi_nat g, bind1_some, if_neg (by simpa using c), if_neg (by simpa using d), hx, wrap_i64 (((42 : Nat) : Int) + (p.Segments_[i]'hi).Start_) (by omega) (by omega), ap, bind1_some, wr64 i (by omega)]
          rfl
theorem segs_ok (p : T_law24_Case) : ∃ l, law24_segments p ⟨rtAll 0, 3, 37, callsS 0, 35, 37⟩ = some l ∧ Segs l ∧ ref16_Find l 37 = some 35 := by
  have hrl : (rtAll 0).length = 42 := rtAll_len 0
  have G0 : Seg3 [⟨0, -1⟩, ⟨37, 35⟩, ⟨42, -1⟩] 0 0 := by
    refine ⟨fun i s s' a b => ?_, fun i s a => ?_, by simp, by simp, rfl, rfl, rfl, by omega, fun s a => ?_⟩
    · match i, a, b with
      | 0, a, b => cases a; cases b; decide
      | 1, a, b => cases a; cases b; decide
      | 2, a, b => simp at b
      | i + 3, a, b => simp at b
    · match i, a with
      | 0, a => cases a; decide
      | 1, a => cases a; decide
      | 2, a => cases a; decide
      | i + 3, a => simp at a
    · cases a; rfl
  obtain ⟨l, last, h1, h2⟩ := segs_loop (p := p) (x := ⟨rtAll 0, 3, 37, callsS 0, 35, 37⟩) hrl (min p.Segments_.length 60) 0 _ _ (by omega) G0
  have S : Segs l := ⟨h2.sorted, h2.rng, by have := h2.len; omega, h2.first⟩
  refine ⟨l, ?_, S, find_eq S ⟨h2.lost, by decide, fun s' h => by
    have : l[1 + 1]? = some ⟨42, -1⟩ := h2.third
    rw [this] at h; cases h; decide⟩⟩
  unfold law24_segments
  dsimp only
  rw [hrl]
  have h1 : loopO (fun (x : ((List T_api_Segment) × Int × Int)) => law24_segments_L1 p ⟨rtAll 0, 3, 37, callsS 0, 35, 37⟩ x.1 x.2.1 x.2.2) (([(T_api_Segment.mk 0 (-1)), (T_api_Segment.mk 37 35), (T_api_Segment.mk ((42 : Nat) : Int) (-1))] : List T_api_Segment), 0, 0) = _ := h1
  rw [h1, bind1_some]
def callW0 (c : Int) : Int := 42 + c % 200
theorem calls_loop {p : T_law24_Case} {x : T_runtime_Image} (hx : x.Words_.length = 42) (hn : p.Calls_.length ≤ 40) (hc : ∀ c ∈ p.Calls_, 0 ≤ c ∧ c ≤ 255) : ∀ (k i : Nat), i + k = p.Calls_.length → loopO (fun (y : ((List Int) × Int)) => law24_RuntimeUnwinds_L1 p x y.1 y.2) ((p.Calls_.take i).map callW0, (i : Int)) = some (p.Calls_.map callW0)
  | 0, i, hk => by
    have : i = p.Calls_.length := by omega
    subst this
    refine loopO_out ?_
    unfold law24_RuntimeUnwinds_L1
    dsimp only
    rw [if_neg (by simp), List.take_length]
  | k + 1, i, hk => by
    have hi : i < p.Calls_.length := by omega
    have g := List.getElem?_eq_getElem hi
    obtain ⟨c0, c1⟩ := hc _ (List.getElem_mem hi)
    have step : law24_RuntimeUnwinds_L1 p x ((p.Calls_.take i).map callW0) (i : Int) = some (.inl ((p.Calls_.take (i + 1)).map callW0, ((i + 1 : Nat) : Int))) := by
      unfold law24_RuntimeUnwinds_L1
      rw [if_pos (by simp; omega), gi_nat g, bind1_some, wrap_i64 (p.Calls_[i]'hi) (by omega) (by omega), tmod_pos c0, hx, wrap_i64 _ (by omega) (by omega), app_some (by simp; omega), bind1_some, wr64 i (by omega), List.take_succ_eq_append_getElem hi, List.map_append]
      rfl
    rw [loopO_go (s' := ((p.Calls_.take (i + 1)).map callW0, ((i + 1 : Nat) : Int))) step]
    exact calls_loop hx hn hc k (i + 1) (by omega)
theorem run_loop {p : T_law24_Case} {x : T_runtime_Image} {m : T_ref03_Mem} {d : T_ref04_Cpu} (hd : d.State_ ≠ 0) : ∀ (n i : Nat) (c : T_ref04_Cpu), i + n ≤ 200000 → Ru m n c d → loopO (fun (y : (Int × T_ref03_Mem × T_ref04_Cpu)) => law24_RuntimeUnwinds_L2 x p y.1 y.2.1 y.2.2) ((i : Int), m, c) = some (IntKind.wrap .i64 ((x.Words_.length : Int) + (Int.tmod (IntKind.wrap .i64 p.At_) 200)), d)
  | 0, i, c, hi, h => by
    cases h
    refine loopO_out ?_
    unfold law24_RuntimeUnwinds_L2
    dsimp only
    rw [if_neg (by simp [hd])]
  | n + 1, i, c, hi, ⟨h0, c', h1, h2⟩ => by
    have step : law24_RuntimeUnwinds_L2 x p (i : Int) m c = some (.inl (((i + 1 : Nat) : Int), m, c')) := by
      unfold law24_RuntimeUnwinds_L2
      rw [h0, decide_eq_true (show (i : Int) < 200000 by omega), if_pos (by decide), h1, bind2_some, wr64 i (by omega)]
    have go : loopO (fun (y : (Int × T_ref03_Mem × T_ref04_Cpu)) => law24_RuntimeUnwinds_L2 x p y.1 y.2.1 y.2.2) ((i : Int), m, c) = loopO (fun (y : (Int × T_ref03_Mem × T_ref04_Cpu)) => law24_RuntimeUnwinds_L2 x p y.1 y.2.1 y.2.2) (((i + 1 : Nat) : Int), m, c') := loopO_go step
    exact go.trans (run_loop hd n (i + 1) c' (by omega) h2)
theorem wrap_back {a : Int} (h0 : -2147483648 ≤ a) (h1 : a ≤ 2147483647) : IntKind.i32.wrap (IntKind.u32.wrap a) = a := by
  rw [wrap_i32_mod, wrap_mod32]; omega
theorem ev_refl (x : T_api_Event) : eq_api_Event x x = true := by unfold eq_api_Event; simp
theorem gi_hd {α : Type} (x : α) (l : List α) : gi (x :: l) 0 = some x := rfl
theorem gi_tl {α : Type} (x y : α) (l : List α) : gi (x :: y :: l) 1 = some y := rfl
theorem RuntimeUnwinds_holds : RuntimeUnwindsPure := by
  intro p hp
  obtain ⟨w1, w2, w3, w4⟩ := hp
  have hAt := wf_u8'.1 w2
  have hEx := wf_i32'.1 w4
  have hCa : ∀ c ∈ p.Calls_, 0 ≤ c ∧ c ≤ 255 := fun c h => wf_u8'.1 (w3.1 c h)
  have hrl : (rtAll 0).length = 42 := rtAll_len 0
  unfold law24_RuntimeUnwinds
  rw [awake24, bind1_some, if_neg (by decide)]
  by_cases h40 : p.Calls_.length > 40
  · rw [if_pos (by simp; omega)]
  have hb := build_eq 0 (by decide)
  have hb : runtime_Build 0 = _ := hb
  have hm := among_ok 0 (by decide)
  have hm : law24_among ⟨rtAll 0, 3, 37, callsS 0, 35, 37⟩ 0 = _ := hm
  rw [if_neg (by simp; omega), hb, bind2_some, if_neg (by decide), hm, bind1_some, bind1_some, if_neg (by decide)]
  obtain ⟨l, hl, S, h37⟩ := segs_ok p
  rw [hl, bind1_some]
  have hcl := calls_loop (p := p) (x := ⟨rtAll 0, 3, 37, callsS 0, 35, 37⟩) hrl (by omega) hCa p.Calls_.length 0 (by omega)
  have hcl : loopO (fun (x : ((List Int) × Int)) => law24_RuntimeUnwinds_L1 p ⟨rtAll 0, 3, 37, callsS 0, 35, 37⟩ x.1 x.2) (([] : List Int), 0) = _ := hcl
  rw [hcl, bind1_some, app_some (by simp; omega), bind1_some]
  dsimp only
  generalize hcs : p.Calls_.map callW0 ++ [(37 : Int)] = calls
  have hn : calls.length = p.Calls_.length + 1 := by rw [← hcs]; simp
  have hlast : calls[calls.length - 1]? = some 37 := by rw [← hcs]; simp
  have hcr : ∀ (i : Nat) (c : Int), calls[i]? = some c → 0 ≤ c ∧ c < 242 := fun i c h => by
    have hm := List.mem_of_getElem? h
    rw [← hcs, List.mem_append, List.mem_map] at hm
    rcases hm with ⟨y, _, rfl⟩ | hm
    · unfold callW0; omega
    · simp at hm; omega
  obtain ⟨E, W, hmem, hE, M⟩ := memory_ok p S (calls := calls) (by omega) hcr
  have hg0 : gi (atsL (242 + (tabW l).length) (calls.length + 1)) 0 = _ := gi_nat (i := 0) (ats_get (by omega))
  rw [hmem, bind2_some, hg0, bind1_some]
  obtain ⟨⟨⟨m1, m2, m3⟩, m4⟩, m5⟩ := M
  have htl := tab_len l
  have hll := S.len
  have hrw : rwL.length = 42 := by kernel_rfl
  obtain ⟨X, hX⟩ : ∃ X, W = rwL ++ X := by
    refine ⟨W.drop 42, ?_⟩
    apply List.ext_getElem?
    intro j
    rw [List.getElem?_append]
    split
    · exact m2 j (by omega)
    · rw [List.getElem?_drop, hrw]; congr 1; omega
  subst hX
  have hL : (rwL ++ X).length ≤ 20000 := by rw [m1]; omega
  have T : Tab (rwL ++ X) l := by
    refine ⟨?_, fun i s h => ?_, fun i s h => ?_⟩
    · have := m4 0 (by omega); exact this
    · have hi := len_of h
      have := m4 (1 + 2 * i) (by omega)
      rw [show 243 + 2 * i = 242 + (1 + 2 * i) by omega, this, ← (tb_get l i s h).1]
      unfold tabW
      rw [Nat.add_comm 1, List.getElem?_cons_succ]
    · have hi := len_of h
      have := m4 (1 + (2 * i + 1)) (by omega)
      rw [show 244 + 2 * i = 242 + (1 + (2 * i + 1)) by omega, this, ← (tb_get l i s h).2]
      unfold tabW
      rw [Nat.add_comm 1, List.getElem?_cons_succ]
  have F : Frames (rwL ++ X) (242 + (tabW l).length) calls := fun i c h => ⟨(hcr i c h).1, (hcr i c h).2, m5 i c (len_of h) h⟩
  obtain ⟨q, hq⟩ : ∃ q : Nat, (q : Int) = 42 + p.At_ % 200 := ⟨(42 + p.At_ % 200).toNat, by omega⟩
  have hq1 : IntKind.wrap .i64 (((rtAll 0).length : Int) + Int.tmod (IntKind.wrap .i64 p.At_) 200) = (q : Int) := by
    rw [hrl, wrap_i64 p.At_ (by omega) (by omega), tmod_pos hAt.1, wrap_i64 _ (by omega) (by omega), hq]; rfl
  have hq2 : IntKind.wrap .u32 (IntKind.wrap .i64 (4 * (q : Int))) = ((4 * q : Nat) : Int) := by
    rw [wrap_i64 _ (by omega) (by omega), wrap_u32 _ (by omega) (by omega)]; omega
  have hA := blkA (epc := ((4 * q : Nat) : Int)) (ca := IntKind.wrap .u32 p.Exc_) (fp := ((4 * (242 + (tabW l).length + 4 * 0) : Nat) : Int)) hE hL
  obtain ⟨n, j, c, r3, r5, pad, q', u1, u2, u3, u4, u5⟩ := unwind_ok (epc := ((4 * q : Nat) : Int)) (ca := IntKind.wrap .u32 p.Exc_) (out := [⟨2, IntKind.wrap .i32 (IntKind.wrap .u32 p.Exc_)⟩]) hE hL S T (fb := 242 + (tabW l).length) (by omega) (by omega) F hlast h37 (IntKind.wrap .u32 p.Exc_) calls.length 0 q (by omega) (by omega) (by omega) 0 0 0 0 0
  have hgoes : ref24_Goes l (q : Int) calls = some ((pad : Int), (j : Int)) := by
    unfold ref24_Goes
    have u3 : loopO (fun (x : (Int × Int)) => ref24_Goes_L1 l calls x.1 x.2) ((q : Int), 0) = _ := u3
    rw [u3, bind1_some]; rfl
  have hP := blkP (epc := ((4 * q : Nat) : Int)) (ca := IntKind.wrap .u32 p.Exc_) (r0 := IntKind.wrap .u32 p.Exc_) (r1 := q') (r2 := c) (r3 := r3) (r5 := r5) (r6 := 972) (fp := ((4 * (242 + (tabW l).length + 4 * j) : Nat) : Int)) (out := [⟨2, IntKind.wrap .i32 (IntKind.wrap .u32 p.Exc_)⟩]) hE hL (p := pad) (by omega)
  have hrun := (hA.trans u2).trans hP
  have hwb := wrap_back hEx.1 hEx.2
  have hg : IntKind.wrap .u32 (IntKind.wrap .i64 (4 * 37)) = 148 := by kernel_rfl
  have e0 : (T_ref04_Cpu.mk (arrL [0, 0, 0, 0, 0, 0, 0, 0, 0, 0, 0, 0, 0, 4 * ((242 + (tabW l).length + 4 * 0 : Nat) : Int), 0, 0] : Arr 16 Int) 0 ((4 * q : Nat) : Int) (IntKind.wrap .u32 p.Exc_) 0 0 0 0 ([] : List T_api_Event) 0 0 148 0 ([] : List Int)) = cS (RS 0 0 0 0 0 0 0 ((4 * (242 + (tabW l).length + 4 * 0) : Nat) : Int)) 0 0 ((4 * q : Nat) : Int) (IntKind.wrap .u32 p.Exc_) [] := by
    rw [show (4 * ((242 + (tabW l).length + 4 * 0 : Nat) : Int)) = ((4 * (242 + (tabW l).length + 4 * 0) : Nat) : Int) by omega]; rfl
  rw [hq1, hq2, hg, e0]
  by_cases h35 : pad = 35
  · subst h35
    have hh := hrun.halt (blkL hE hL)
    obtain ⟨s', hs'⟩ := hh 0
    have hr := run_loop (p := p) (x := ⟨rtAll 0, 3, 37, callsS 0, 35, 37⟩) (show (1 : Int) ≠ 0 by decide) _ 0 _ (by omega) hs'
    rw [hq1] at hr
    have hr : loopO (fun (x : (Int × T_ref03_Mem × T_ref04_Cpu)) => law24_RuntimeUnwinds_L2 ⟨rtAll 0, 3, 37, callsS 0, 35, 37⟩ p x.1 x.2.1 x.2.2) (0, ⟨E, rwL ++ X⟩, cS (RS 0 0 0 0 0 0 0 ((4 * (242 + (tabW l).length + 4 * 0) : Nat) : Int)) 0 0 ((4 * q : Nat) : Int) (IntKind.wrap .u32 p.Exc_) []) = _ := hr
    rw [hr, bind1_some]
    show bind2 (ref24_Goes l (q : Int) calls) _ = _
    rw [hgoes, bind2_some, hwb]
    unfold cE
    dsimp only
    rw [if_neg (by decide), if_neg (by simp), if_neg (by simp)]
    show bind1 (bind1 (gi (_ :: _) 0) _) _ = _
    rw [gi_hd, bind1_some, ev_refl, if_neg (by decide)]
    show bind1 (some (IntKind.wrap .u32 p.Exc_ != IntKind.wrap .u32 p.Exc_)) _ = _
    rw [bind1_some, if_neg (by simp), if_pos (by decide), if_pos (by simp)]
    show bind1 (bind1 (gi (_ :: _) 1) _) _ = _
    rw [gi_tl, bind1_some, ev_refl, bind1_some]
  · have h42 : 42 ≤ pad ∧ pad < 242 := by omega
    have hh := hrun.halt (rh_one (va := IntKind.wrap .u32 p.Exc_) hE hL h42.2 (m3 pad h42.1 (by omega)) rfl)
    obtain ⟨s', hs'⟩ := hh 0
    have hr := run_loop (p := p) (x := ⟨rtAll 0, 3, 37, callsS 0, 35, 37⟩) (show (1 : Int) ≠ 0 by decide) _ 0 _ (by omega) hs'
    rw [hq1] at hr
    have hr : loopO (fun (x : (Int × T_ref03_Mem × T_ref04_Cpu)) => law24_RuntimeUnwinds_L2 ⟨rtAll 0, 3, 37, callsS 0, 35, 37⟩ p x.1 x.2.1 x.2.2) (0, ⟨E, rwL ++ X⟩, cS (RS 0 0 0 0 0 0 0 ((4 * (242 + (tabW l).length + 4 * 0) : Nat) : Int)) 0 0 ((4 * q : Nat) : Int) (IntKind.wrap .u32 p.Exc_) []) = _ := hr
    rw [hr, bind1_some]
    show bind2 (ref24_Goes l (q : Int) calls) _ = _
    rw [hgoes, bind2_some, hwb]
    unfold cE
    dsimp only
    rw [if_neg (by simp), if_neg (by simp), if_neg (by simp)]
    show bind1 (bind1 (gi (_ :: _) 0) _) _ = _
    rw [gi_hd, bind1_some, ev_refl, if_neg (by decide)]
    show bind1 (some (IntKind.wrap .u32 p.Exc_ != IntKind.wrap .u32 p.Exc_)) _ = _
    rw [bind1_some, if_neg (by simp), if_neg (by simp; omega), if_pos (by simp), wrap_i64 _ (by omega) (by omega), wrap_u32 _ (by omega) (by omega), if_pos (by simp), gi_nat (ats_get (by omega)), bind1_some]
    show bind1 (some (((4 * (242 + (tabW l).length + 4 * j) : Nat) : Int) == 4 * ((242 + (tabW l).length + 4 * j : Nat) : Int))) _ = _
    rw [bind1_some, show 4 * ((242 + (tabW l).length + 4 * j : Nat) : Int) = ((4 * (242 + (tabW l).length + 4 * j) : Nat) : Int) by omega]
    simp
end Go.Proofs.Abs
