/- The law AsmBack: whatever the input, it answers true. No conditions. (Part AsmBackP of its proof.) -/
import Derived.Test.YtfecmlajhlpgkaaDoorAsmBackF1
import Derived.Lib.SplitLaws
set_option linter.unusedVariables false
set_option linter.unusedSimpArgs false
set_option linter.unusedSectionVars false
/- Bits of words, as numbers. -/
namespace Go.Proofs.Abs
open Go
set_option linter.unusedVariables false
set_option linter.unusedSimpArgs false
theorem ofInt_nat (a : Nat) (h : a < 4294967296) : (BitVec.ofInt 32 (a : Int)).toNat = a := by
  rw [BitVec.toNat_ofInt]
  have : ((a : Int) % ((2 ^ 32 : Nat) : Int)) = (a : Int) := Int.emod_eq_of_lt (by omega) (by simp; omega)
  rw [this]; simp
theorem or_nat (a b : Nat) (ha : a < 4294967296) (hb : b < 4294967296) : bitsOf .or .u32 (a : Int) (b : Int) = ((a ||| b : Nat) : Int) := by
  have h : a ||| b < 4294967296 := Nat.or_lt_two_pow (n := 32) ha hb
  show IntKind.u32.wrap ((BitVec.ofInt 32 (a : Int) ||| BitVec.ofInt 32 (b : Int)).toNat : Int) = _
  rw [BitVec.toNat_or, ofInt_nat a ha, ofInt_nat b hb, wrap_u32 _ (by omega) (by omega)]
theorem and_nat (a b : Nat) (ha : a < 4294967296) (hb : b < 4294967296) : bitsOf .and .u32 (a : Int) (b : Int) = ((a &&& b : Nat) : Int) := by
  have h : a &&& b < 4294967296 := Nat.lt_of_le_of_lt Nat.and_le_left ha
  show IntKind.u32.wrap ((BitVec.ofInt 32 (a : Int) &&& BitVec.ofInt 32 (b : Int)).toNat : Int) = _
  rw [BitVec.toNat_and, ofInt_nat a ha, ofInt_nat b hb, wrap_u32 _ (by omega) (by omega)]
theorem or_part (k : Nat) (x b : Int) (h0 : 0 ≤ x) (hb0 : 0 ≤ b) (hb : b < 2 ^ k) (h : x * 2 ^ k + b < 4294967296) : bitsOf .or .u32 (x * 2 ^ k) b = x * 2 ^ k + b := by
  obtain ⟨m, rfl⟩ : ∃ m : Nat, x = m := ⟨x.toNat, by omega⟩
  obtain ⟨n, rfl⟩ : ∃ n : Nat, b = n := ⟨b.toNat, by omega⟩
  have hn : n < 2 ^ k := by exact_mod_cast hb
  have e0 : ((m : Int) * 2 ^ k + n) = ((m * 2 ^ k + n : Nat) : Int) := by simp
  rw [e0] at h
  have hs : m * 2 ^ k + n < 4294967296 := Int.ofNat_lt.1 h
  clear h e0
  have e : ((m : Int) * 2 ^ k) = ((m * 2 ^ k : Nat) : Int) := by simp
  rw [e, or_nat _ _ (by omega) (by omega), ← Nat.shiftLeft_eq, ← Nat.shiftLeft_add_eq_or_of_lt hn]
  simp
theorem and_low (k : Nat) (a : Int) (h0 : 0 ≤ a) (h : a < 4294967296) (hk : k ≤ 31) : bitsOf .and .u32 a ((2 ^ k - 1 : Nat) : Int) = a % 2 ^ k := by
  obtain ⟨n, rfl⟩ : ∃ n : Nat, a = n := ⟨a.toNat, by omega⟩
  have p : 2 ^ k ≤ 2 ^ 31 := Nat.pow_le_pow_right (by decide) hk
  rw [and_nat _ _ (by omega) (by omega), Nat.and_two_pow_sub_one_eq_mod]
  simp
theorem and_16 (a : Int) (h0 : 0 ≤ a) (h : a < 4294967296) : bitsOf .and .u32 a 65535 = a % 65536 := and_low 16 a h0 h (by decide)
theorem and_24 (a : Int) (h0 : 0 ≤ a) (h : a < 4294967296) : bitsOf .and .u32 a 16777215 = a % 16777216 := and_low 24 a h0 h (by decide)
theorem wrap_mod (n : Int) : IntKind.u32.wrap n = n % 4294967296 := by
  simp only [IntKind.wrap, IntKind.bits, IntKind.signed]
  simp
/-- the fields of a word -/
theorem word_of (op a b m c : Int) (h1 : 0 ≤ op) (h2 : op < 128) (h3 : 0 ≤ a) (h4 : a < 16) (h5 : 0 ≤ b) (h6 : b < 16) (h7 : 0 ≤ c) (h8 : c < 16) (h9 : m = 0 ∨ c = 0) :
    bitsOf .or .u32 (bitsOf .or .u32 (bitsOf .or .u32 (bitsOf .or .u32 (IntKind.wrap .u32 ((IntKind.wrap .u32 op) * 2 ^ 24)) (IntKind.wrap .u32 ((IntKind.wrap .u32 a) * 2 ^ 20))) (IntKind.wrap .u32 ((IntKind.wrap .u32 b) * 2 ^ 16))) (bitsOf .and .u32 (IntKind.wrap .u32 m) 65535)) (IntKind.wrap .u32 c)
      = op * 16777216 + a * 1048576 + b * 65536 + m % 65536 + c := by
  rw [wrap_u32 op h1 (by omega), wrap_u32 a h3 (by omega), wrap_u32 b h5 (by omega), wrap_u32 c h7 (by omega), wrap_u32 (op * 2 ^ 24) (by omega) (by omega), wrap_u32 (a * 2 ^ 20) (by omega) (by omega), wrap_u32 (b * 2 ^ 16) (by omega) (by omega),
    and_16 _ (by rw [wrap_mod]; omega) (by rw [wrap_mod]; omega), wrap_mod]
  rw [or_part 24 op (a * 2 ^ 20) h1 (by omega) (by omega) (by omega)]
  have e1 : op * 2 ^ 24 + a * 2 ^ 20 = (op * 16 + a) * 2 ^ 20 := by omega
  rw [e1, or_part 20 (op * 16 + a) (b * 2 ^ 16) (by omega) (by omega) (by omega) (by omega)]
  have e2 : (op * 16 + a) * 2 ^ 20 + b * 2 ^ 16 = (op * 256 + a * 16 + b) * 2 ^ 16 := by omega
  rw [e2, or_part 16 (op * 256 + a * 16 + b) (m % 4294967296 % 65536) (by omega) (by omega) (by omega) (by omega)]
  rcases h9 with rfl | rfl
  · have e3 : (op * 256 + a * 16 + b) * 2 ^ 16 + 0 % 4294967296 % 65536 = (op * 4096 + a * 256 + b * 16 + 0) * 2 ^ 12 := by omega
    have e4 : (op * 4096 + a * 256 + b * 16 + 0) * 2 ^ 12 = ((op * 4096 + a * 256 + b * 16 + 0) * 2 ^ 8) * 2 ^ 4 := by omega
    rw [e3, e4, or_part 4 _ c (by omega) h7 (by omega) (by omega)]
    omega
  · have e3 : (op * 256 + a * 16 + b) * 2 ^ 16 + m % 4294967296 % 65536 = ((op * 256 + a * 16 + b) * 2 ^ 16 + m % 4294967296 % 65536) * 2 ^ 0 := by omega
    rw [e3, or_part 0 _ 0 (by omega) (by omega) (by omega) (by omega)]
    omega
end Go.Proofs.Abs
/- Strings as lists of bytes; what loops come to. -/
namespace Go.Proofs.Abs
open Go
set_option linter.unusedVariables false
set_option linter.unusedSimpArgs false
abbrev Bs := List UInt8
def bs (s : ByteArray) : Bs := s.data.toList
def mkB (l : Bs) : ByteArray := ⟨l.toArray⟩
theorem bs_mk (l : Bs) : bs (mkB l) = l := rfl
theorem mk_bs (s : ByteArray) : mkB (bs s) = s := rfl
theorem bs_inj {a b : ByteArray} (h : bs a = bs b) : a = b := by rw [← mk_bs a, ← mk_bs b, h]
theorem size_bs (s : ByteArray) : s.size = (bs s).length := Lib.size_eq s
theorem size_mk (l : Bs) : (mkB l).size = l.length := rfl
theorem strEq_eq (x y : ByteArray) : strEq x y = decide (bs x = bs y) := by
  unfold strEq
  rw [Lib.toList_data, Lib.toList_data]
  show (bs x == bs y) = _
  by_cases h : bs x = bs y
  · rw [h]; simp
  · rw [decide_eq_false h]; simp [h]
theorem strEq_mk (x : ByteArray) (l : Bs) : strEq x (mkB l) = decide (bs x = l) := strEq_eq _ _
theorem strEq_nil (x : ByteArray) : strEq x ByteArray.empty = decide (bs x = []) := strEq_eq _ _
/-- a byte, as a number -/
def u8i (c : UInt8) : Int := (c.toNat : Int)
theorem u8i_inj {a b : UInt8} (h : u8i a = u8i b) : a = b := UInt8.toNat_inj.1 (by unfold u8i at h; omega)
theorem u8i_eq (a : UInt8) (n : Nat) (hn : n < 256) : (u8i a = n) = (a = UInt8.ofNat n) := by
  have e : u8i (UInt8.ofNat n) = n := by unfold u8i; simp; omega
  exact propext ⟨fun h => u8i_inj (by rw [h, e]), fun h => by rw [h, e]⟩
theorem get_bs (b : ByteArray) (i : Nat) : b[i]? = (bs b)[i]? := by
  show (if h : i < b.size then some b[i] else none) = _
  by_cases h : i < b.size
  · rw [dif_pos h, List.getElem?_eq_getElem (by rw [← size_bs]; exact h)]; rfl
  · rw [dif_neg h, List.getElem?_eq_none (by rw [← size_bs]; omega)]
theorem sAt_some {b : ByteArray} {i : Nat} {c : UInt8} (h : (bs b)[i]? = some c) : sAt b (i : Int) = some (u8i c) := by
  unfold sAt
  rw [if_pos (by omega), Int.toNat_natCast, get_bs, h]
  rfl
theorem sCut_some (b : ByteArray) {lo hi : Nat} (h1 : lo ≤ hi) (h2 : hi ≤ (bs b).length) : sCut b (lo : Int) (hi : Int) = some (mkB (((bs b).drop lo).take (hi - lo))) := by
  unfold sCut
  rw [if_pos ⟨by omega, by omega, by rw [size_bs]; omega⟩, Int.toNat_natCast, Int.toNat_natCast]
  congr 1
  apply bs_inj
  rw [bs_mk]
  exact Lib.extract_data b lo hi
theorem sCut_all (b : ByteArray) {lo : Nat} (h1 : lo ≤ (bs b).length) : sCut b (lo : Int) b.size = some (mkB ((bs b).drop lo)) := by
  rw [size_bs, sCut_some b h1 (Nat.le_refl _), List.take_of_length_le (by simp)]
theorem sCat_some {x y : ByteArray} (h : (bs x).length + (bs y).length ≤ 9223372036854775807) : sCat x y = some (mkB (bs x ++ bs y)) := by
  unfold sCat
  rw [if_neg (by rw [size_bs, size_bs]; show ¬ _ > (9223372036854775807 : Int); omega)]
  rfl
theorem app_some {α : Type} {zb : Nat} {xs ys : List α} (h : (xs.length + ys.length) * zb ≤ 140737488355328) : app zb xs ys = some (xs ++ ys) := if_pos h
theorem gi_nat {α : Type} {xs : List α} {i : Nat} {x : α} (h : xs[i]? = some x) : gi xs (i : Int) = some x := by
  unfold gi; rw [if_pos (by omega), Int.toNat_natCast, h]
theorem len_of {α : Type} {xs : List α} {i : Nat} {x : α} (h : xs[i]? = some x) : i < xs.length := (List.getElem?_eq_some_iff.1 h).1
theorem wr64 (n : Nat) (h : n < 4611686018427387904) : IntKind.wrap .i64 ((n : Int) + 1) = ((n + 1 : Nat) : Int) := by rw [wrap_i64 _ (by omega) (by omega)]; omega

/-! loops over a list -/
section
variable {S σ α ρ : Type}
/-- what a loop over a list comes to -/
def runG (g : Nat → σ → α → σ ⊕ ρ) (out : σ → ρ) : Nat → σ → List α → ρ
  | _, s, [] => out s
  | i, s, x :: l => match g i s x with
    | .inl s' => runG g out (i + 1) s' l
    | .inr r => r
theorem runG_cons (g : Nat → σ → α → σ ⊕ ρ) (out : σ → ρ) (i : Nat) (s : σ) (x : α) (l : List α) : runG g out i s (x :: l) = match g i s x with
    | .inl s' => runG g out (i + 1) s' l
    | .inr r => r := rfl
theorem loop_g {xs : List α} {f : S → Option (S ⊕ ρ)} (st : σ → Nat → S) (g : Nat → σ → α → σ ⊕ ρ) (out : σ → ρ) (P : Nat → σ → Prop)
    (hs : ∀ i x s, xs[i]? = some x → P i s → f (st s i) = some (match g i s x with | .inl s' => .inl (st s' (i + 1)) | .inr r => .inr r))
    (hp : ∀ i x s s', xs[i]? = some x → P i s → g i s x = .inl s' → P (i + 1) s') (he : ∀ s, P xs.length s → f (st s xs.length) = some (.inr (out s))) :
    ∀ (l : List α) (i : Nat) (s : σ), i ≤ xs.length → xs.drop i = l → P i s → loopO f (st s i) = some (runG g out i s l)
  | [], i, s, hi, hl, hP => by
    have : i = xs.length := by
      have := congrArg List.length hl
      simp at this; omega
    subst this
    rw [loopO_out (he s hP)]; rfl
  | x :: l, i, s, hi, hl, hP => by
    have hx : xs[i]? = some x := by
      have := congrArg (·[0]?) hl
      simpa using this
    have hd : xs.drop (i + 1) = l := by rw [← List.drop_drop, hl]; rfl
    have h := hs i x s hx hP
    unfold runG
    cases hg : g i s x with
    | inl s' =>
      rw [hg] at h
      rw [loopO_go h]
      exact loop_g st g out P hs hp he l (i + 1) s' (len_of hx) hd (hp i x s s' hx hP hg)
    | inr r => rw [hg] at h; rw [loopO_out h]
theorem loop_all {xs : List α} {f : S → Option (S ⊕ ρ)} (st : σ → Nat → S) (g : Nat → σ → α → σ ⊕ ρ) (out : σ → ρ) (P : Nat → σ → Prop) (s : σ) (h0 : P 0 s)
    (hs : ∀ i x s, xs[i]? = some x → P i s → f (st s i) = some (match g i s x with | .inl s' => .inl (st s' (i + 1)) | .inr r => .inr r))
    (hp : ∀ i x s s', xs[i]? = some x → P i s → g i s x = .inl s' → P (i + 1) s') (he : ∀ s, P xs.length s → f (st s xs.length) = some (.inr (out s))) :
    loopO f (st s 0) = some (runG g out 0 s xs) := loop_g st g out P hs hp he xs 0 s (Nat.zero_le _) rfl h0
/-- a search: the first that answers -/
def findG (g : Nat → α → Option ρ) (r0 : ρ) : Nat → List α → ρ
  | _, [] => r0
  | i, x :: l => match g i x with
    | some r => r
    | none => findG g r0 (i + 1) l
theorem loop_find {xs : List α} {f : Int → Option (Int ⊕ ρ)} (g : Nat → α → Option ρ) (r0 : ρ)
    (hs : ∀ (i : Nat) x, xs[i]? = some x → f (i : Int) = some (match g i x with | some r => .inr r | none => .inl ((i + 1 : Nat) : Int)))
    (he : f (xs.length : Int) = some (.inr r0)) : loopO f 0 = some (findG g r0 0 xs) := by
  have h := loop_all (xs := xs) (f := f) (fun (_ : Unit) i => (i : Int)) (fun i _ x => match g i x with | some r => .inr r | none => .inl ()) (fun _ => r0) (fun _ _ => True) () trivial
    (fun i x s hx _ => by rw [hs i x hx]; cases g i x <;> rfl) (fun _ _ _ _ _ _ _ => trivial) (fun _ _ => he)
  have e : ∀ (l : List α) (i : Nat), runG (fun i (_ : Unit) x => match g i x with | some r => .inr r | none => .inl ()) (fun _ => r0) i () l = findG g r0 i l := by
    intro l
    induction l with
    | nil => intro i; rfl
    | cons x l ih =>
      intro i
      unfold runG findG
      cases g i x with
      | none => exact ih (i + 1)
      | some r => rfl
  rw [e] at h
  exact h
end
end Go.Proofs.Abs
/- Names, labels, operations. -/
namespace Go.Proofs.Abs
open Go
set_option linter.unusedVariables false
set_option linter.unusedSimpArgs false
theorem i_lt {α : Type} {xs : List α} {i : Nat} {x : α} (h : xs[i]? = some x) : decide ((i : Int) < (xs.length : Int)) = true := by
  have := len_of h; simp; omega
theorem i_ge {α : Type} (xs : List α) : decide ((xs.length : Int) < (xs.length : Int)) = false := by simp
/-- may a byte stand in a name? -/
def nameC (i : Nat) (c : UInt8) : Bool := (decide (97 ≤ u8i c) && decide (u8i c ≤ 122)) || (decide (u8i c = 95) || (decide (0 < i) && (decide (48 ≤ u8i c) && decide (u8i c ≤ 57))))
def nameS (l : Bs) : Bool := decide (1 ≤ l.length ∧ l.length ≤ 32) && findG (fun i c => if nameC i c then none else some false) true 0 l
theorem findG_unit (p : Nat → UInt8 → Bool) : ∀ (l : Bs) (i : Nat), findG (fun i c => if p i c then none else some (Sum.inr () : Unit ⊕ Unit)) (.inl ()) i l = if findG (fun i c => if p i c then none else some false) true i l = true then .inl () else .inr ()
  | [], _ => rfl
  | x :: l, i => by
    unfold findG
    cases p i x with
    | true => exact findG_unit p l (i + 1)
    | false => rfl
theorem asm_Name_eq (s : ByteArray) (hs : s.size < 4611686018427387904) : asm_Name s = some (nameS (bs s)) := by
  unfold asm_Name nameS
  rw [strEq_nil, size_bs]
  by_cases h : 1 ≤ (bs s).length ∧ (bs s).length ≤ 32
  · rw [if_neg, decide_eq_true h, Bool.true_and, loop_find (xs := bs s) (fun i c => if nameC i c then none else some (.inr ())) (.inl ()), findG_unit nameC]
    · cases findG (fun i c => if nameC i c then none else some false) true 0 (bs s) <;> rfl
    · intro i c hc
      unfold asm_Name_L1
      rw [size_bs, i_lt hc, if_pos rfl, sAt_some hc, bind1_some, wr64 i (by have := len_of hc; omega)]
      have hb : ((!(if (decide (u8i c ≥ 97)) = true then ((decide (u8i c ≤ 122)) || (u8i c == 95)) else (u8i c == 95))) && (((i : Int) == 0) || ((decide (u8i c < 48)) || (decide (u8i c > 57))))) = !nameC i c := by
        unfold nameC
        rw [Bool.eq_iff_iff]
        simp only [Bool.and_eq_true, Bool.or_eq_true, Bool.not_eq_true', beq_iff_eq, decide_eq_true_eq]
        split <;> simp <;> omega
      rw [hb]
      cases nameC i c <;> rfl
    · unfold asm_Name_L1
      rw [size_bs, i_ge, if_neg (by decide)]
    · intro e
      simp at e
      rcases e with e | e
      · rw [e] at h; simp at h
      · omega
  · rw [if_pos, decide_eq_false h]; rfl
    simp
    cases hb : bs s with
    | nil => simp
    | cons a r => rw [hb] at h; simp at h ⊢; omega
/-- the word that a name names -/
def atS (n : Bs) (ls : List T_asm_Label) : Int := findG (fun _ l => if bs l.Name_ = n then some l.At_ else none) (-1) 0 ls
/-- a search whose answer stands in a sum -/
theorem findG_sum {α ρ : Type} (g : Nat → α → Option ρ) (r0 : ρ) : ∀ (l : List α) (i : Nat), sum2 (fun (_ : Unit) => some r0) (fun r => some r) (findG (fun i x => (g i x).map (Sum.inr : ρ → Unit ⊕ ρ)) (.inl ()) i l) = some (findG g r0 i l)
  | [], _ => rfl
  | x :: l, i => by
    unfold findG
    cases g i x with
    | some r => rfl
    | none => exact findG_sum g r0 l (i + 1)
theorem asm_At_eq (u : T_asm_Unit) (n : ByteArray) (h : u.Labels_.length < 4611686018427387904) : asm_Unit_At u n = some (atS (bs n) u.Labels_) := by
  unfold asm_Unit_At atS
  rw [loop_find (xs := u.Labels_) (fun i x => (if bs x.Name_ = bs n then some x.At_ else none).map Sum.inr) (.inl ()), bind1_some]
  · exact findG_sum _ _ _ _
  · intro i x hx
    unfold asm_Unit_At_L1
    rw [i_lt hx, if_pos rfl, gi_nat hx, bind1_some, strEq_eq, wr64 i (by have := len_of hx; omega)]
    by_cases e : bs x.Name_ = bs n
    · simp [e]
    · simp [e]
  · unfold asm_Unit_At_L1
    rw [i_ge, if_neg (by decide)]
/-- the document's labels -/
def rl (l : T_asm_Label) : T_ref05_Label := ⟨l.Name_, l.At_⟩
theorem findG_mapL {α β ρ : Type} (f : α → β) (g : Nat → β → Option ρ) (r0 : ρ) : ∀ (l : List α) (i : Nat), findG g r0 i (l.map f) = findG (fun i x => g i (f x)) r0 i l
  | [], _ => rfl
  | x :: l, i => by
    simp only [List.map_cons]
    unfold findG
    cases g i (f x) with
    | some r => rfl
    | none => exact findG_mapL f g r0 l (i + 1)
/-- the operations' names -/
def opNames : List Bs := [[72, 65, 76, 84], [76, 68, 73], [76, 85, 73], [79, 82, 73], [65, 68, 68, 73], [65, 68, 68], [83, 85, 66], [77, 85, 76], [68, 73, 86], [77, 79, 68], [65, 78, 68], [79, 82], [88, 79, 82], [83, 76, 84], [83, 76, 69], [83, 69, 81], [83, 78, 69], [76, 68, 87], [83, 84, 87], [66, 90], [66, 78, 90], [66, 82], [67, 65, 76, 76], [74, 82], [67, 65, 76, 76, 82], [67, 72, 75], [78, 73, 76], [84, 82, 65, 80], [82, 65, 73, 83, 69], [79, 85, 84], [73, 78], [67, 72, 75, 83], [82, 84, 67], [88, 79, 82, 73]]
def opS (n : Bs) : Int := findG (fun i x => if x = n then some ((i + 1 : Nat) : Int) else none) 0 0 opNames
theorem names_eq : instr_names = some (mkB [] :: opNames.map mkB) := by kernel_rfl
theorem instr_Op_eq (s : ByteArray) : instr_Op s = some (opS (bs s)) := by
  unfold instr_Op
  rw [names_eq, bind1_some, loop_find (xs := mkB [] :: opNames.map mkB) (fun i x => (if 0 < i ∧ bs x = bs s then some (i : Int) else none).map Sum.inr) (.inl ()), bind1_some]
  · rw [findG_sum]
    unfold findG
    simp only [Nat.lt_irrefl, false_and, if_false]
    rw [findG_mapL]
    have : ∀ (l : List Bs) (i : Nat), findG (fun i x => if 0 < i ∧ bs (mkB x) = bs s then some (i : Int) else none) 0 (i + 1) l = findG (fun i x => if x = bs s then some ((i + 1 : Nat) : Int) else none) 0 i l := by
      intro l
      induction l with
      | nil => intro i; rfl
      | cons x l ih =>
        intro i
        unfold findG
        rw [bs_mk]
        by_cases e : x = bs s
        · rw [if_pos ⟨by omega, e⟩, if_pos e]
        · rw [if_neg (fun h => e h.2), if_neg e]; exact ih (i + 1)
    rw [this]; rfl
  · intro i x hx
    unfold instr_Op_L1
    rw [i_lt hx, if_pos rfl, gi_nat hx, bind1_some, strEq_eq, wr64 i (by have := len_of hx; simp [opNames] at this; omega)]
    by_cases e : bs x = bs s
    · by_cases e0 : 0 < i
      · have : (i : Int) > 0 := by omega
        simp [e, e0, this]
      · have : ¬ (i : Int) > 0 := by omega
        simp [e, e0, this]
    · simp [e]
  · unfold instr_Op_L1
    rw [i_ge, if_neg (by decide)]
end Go.Proofs.Abs
/- A row's label; texts that are cut. -/
namespace Go.Proofs.Abs
open Go
set_option linter.unusedVariables false
set_option linter.unusedSimpArgs false
theorem Name_at : ((List.range 34).all fun i => match ref02_Name ((i + 1 : Nat) : Int), opNames[i]? with
    | some b, some l => decide (bs b = l)
    | _, _ => false) = true := by kernel_rfl
theorem ref02_Name_eq {i : Nat} {x : Bs} (h : opNames[i]? = some x) : ref02_Name (((i : Nat) : Int) + 1) = some (mkB x) := by
  have hl := len_of h
  have := List.all_eq_true.1 Name_at i (List.mem_range.2 (by simpa [opNames] using hl))
  simp only [h] at this
  rw [show ((i : Nat) : Int) + 1 = ((i + 1 : Nat) : Int) by omega]
  cases hb : ref02_Name ((i + 1 : Nat) : Int) with
  | none => rw [hb] at this; cases this
  | some b =>
    rw [hb] at this
    have e := of_decide_eq_true this
    rw [← e, mk_bs]
/-- a row's last field, if it may name a label -/
def jumpS (op : Int) : Bool := decide (20 ≤ op ∧ op ≤ 23)
def namedS (op : Int) (fs : List ByteArray) : Bs := match fs.getLast? with
  | some f => if jumpS op && nameS (bs f) then bs f else []
  | none => []
theorem asm_jumps_eq (op : Int) : asm_jumps op = some (jumpS op) := by
  unfold asm_jumps asm_jumps_j1 jumpS
  by_cases h : 20 ≤ op ∧ op ≤ 23
  · rw [decide_eq_true h]
    have : op = 20 ∨ op = 21 ∨ op = 22 ∨ op = 23 := by omega
    rcases this with rfl | rfl | rfl | rfl <;> rfl
  · rw [decide_eq_false h, if_neg (by simp; omega), if_neg (by simp; omega), if_neg (by simp; omega), if_neg (by simp; omega)]
theorem last_at {α : Type} {fs : List α} {f : α} (h : fs.getLast? = some f) : fs[fs.length - 1]? = some f := by rw [← List.getLast?_eq_getElem?, h]
theorem last_ix {α : Type} {fs : List α} {f : α} (h : fs.getLast? = some f) (hl : fs.length < 4611686018427387904) : IntKind.wrap .i64 ((fs.length : Int) - 1) = ((fs.length - 1 : Nat) : Int) := by
  have : 0 < fs.length := List.length_pos_iff.2 (fun e => by subst e; cases h)
  rw [wrap_i64 _ (by omega) (by omega)]; omega
def okFs (fs : List ByteArray) : Prop := fs.length < 4611686018427387904 ∧ ∀ f ∈ fs, f.size < 4611686018427387904
theorem named_eq (x : T_asm_row) (h : okFs x.fields_) : asm_row_named x = some (mkB (namedS x.op_ x.fields_)) := by
  unfold asm_row_named namedS
  rw [asm_jumps_eq, bind1_some]
  cases hf : x.fields_.getLast? with
  | none =>
    rw [List.getLast?_eq_none_iff] at hf
    rw [hf, if_pos (by simp)]; rfl
  | some f =>
    have hn : 0 < x.fields_.length := List.length_pos_iff.2 (fun e => by rw [e] at hf; cases hf)
    cases hj : jumpS x.op_ with
    | false => rw [if_pos (by simp)]; rfl
    | true =>
      have hz : ((x.fields_.length : Int) == 0) = false := by rw [beq_eq_false_iff_ne]; omega
      rw [if_neg (by rw [hz]; decide), last_ix hf h.1, gi_nat (last_at hf), bind1_some, asm_Name_eq _ (h.2 _ (List.mem_of_getLast? hf)), bind1_some]
      show _ = some (mkB (if (true && nameS (bs f)) = true then bs f else []))
      cases nameS (bs f) <;> rfl
/-- the document's rows -/
def rr (x : T_asm_row) : T_ref05_row := ⟨x.line_, x.op_, x.word_, x.fields_⟩
/-! cuts at one byte -/
def cuts (c : UInt8) : Bs → List Bs
  | [] => [[]]
  | x :: l => if x = c then [] :: cuts c l else match cuts c l with
    | h :: t => (x :: h) :: t
    | [] => [[x]]
theorem split_miss {s sep : Bs} (h : Lib.index s sep = -1) : Lib.split s sep = [s] := by
  unfold Lib.split
  rw [Lib.count_miss h]; rfl
theorem split_hit {s sep : Bs} {i : Nat} (hs : sep ≠ []) (h : Lib.index s sep = i) : Lib.split s sep = s.take i :: Lib.split (s.drop (i + sep.length)) sep := by
  unfold Lib.split
  rw [Lib.count_hit hs h, Nat.add_comm]
  conv => lhs; unfold Lib.splitK
  rw [if_neg (by rw [h]; simp), h]
  rfl
theorem split_one (c : UInt8) : ∀ s, Lib.split s [c] = cuts c s
  | [] => by rw [split_miss (by simp [Lib.index])]; rfl
  | x :: l => by
    have ih := split_one c l
    unfold cuts
    by_cases e : x = c
    · subst e
      have : Lib.index (x :: l) [x] = ((0 : Nat) : Int) := by rw [Lib.index]; simp [List.isPrefixOf]
      rw [split_hit (by simp) this, if_pos rfl]
      simp [ih]
    · have hp : ([c] : Bs).isPrefixOf (x :: l) = false := by simp [List.isPrefixOf, Ne.symm e]
      have hi : Lib.index (x :: l) [c] = if Lib.index l [c] == -1 then -1 else Lib.index l [c] + 1 := by rw [Lib.index, hp]; simp
      rw [if_neg e]
      rcases Lib.index_spec l [c] with ⟨h, _⟩ | ⟨i, h, _⟩
      · rw [h] at hi
        rw [split_miss (by simpa using hi), ← ih, split_miss h]
      · rw [h, if_neg (by simp)] at hi
        rw [split_hit (i := i + 1) (by simp) (by rw [hi]; simp), ← ih, split_hit (by simp) h]
        simp [Nat.add_assoc, Nat.add_comm 1]
theorem splitB_bs (s sep : ByteArray) : (Lib.splitB sep 0 (Lib.countB s sep) s) = (Lib.split (bs s) (bs sep)).map mkB := by
  have h := Lib.splitB_data sep 0 (Lib.countB s sep) s
  have h2 : ((Lib.splitB sep 0 (Lib.countB s sep) s).map (·.data.toList)).map mkB = (Lib.split (bs s) (bs sep)).map mkB := by rw [h]; rfl
  rw [← h2, List.map_map]
  exact (List.map_id _).symm
theorem splitC_eq (s : ByteArray) (sep : Bs) (hs : s.size < 4294967281) (h1 : sep ≠ []) : splitC s (mkB sep) = some ((Lib.split (bs s) sep).map mkB) := by
  unfold splitC
  rw [if_pos ⟨by rw [size_mk]; exact List.length_pos_iff.2 h1, hs⟩, splitB_bs]; rfl
end Go.Proofs.Abs
/- Texts that are cut, by the document; a line's first word and its fields. -/
namespace Go.Proofs.Abs
open Go
set_option linter.unusedVariables false
set_option linter.unusedSimpArgs false
def glue (cur : Bs) : List Bs → List Bs
  | h :: t => (cur ++ h) :: t
  | [] => [cur]
def cutG (b : Bs) (c : UInt8) (i : Nat) (s : List ByteArray × Nat) (x : UInt8) : (List ByteArray × Nat) ⊕ (List ByteArray × Int) :=
  if x = c then .inl (s.1 ++ [mkB ((b.take i).drop s.2)], i + 1) else .inl s
def cutE (s : List ByteArray × Nat) : List ByteArray × Int := (s.1, (s.2 : Int))
/-! fields: parted by a comma and a blank -/
def goodF (f : Bs) : Bool := !f.isEmpty && f.all fun c => c != 32 && c != 44
def joinF : List Bs → Bs
  | [] => []
  | [f] => f
  | f :: g :: r => f ++ 44 :: 32 :: joinF (g :: r)
theorem split_ne (s sep : Bs) (hs : sep ≠ []) : Lib.split s sep ≠ [] := by
  rcases Lib.index_spec s sep with ⟨h, _⟩ | ⟨i, h, _⟩
  · rw [split_miss h]; simp
  · rw [split_hit hs h]; simp
theorem join_cons {f : Bs} {r : List Bs} (h : r ≠ []) : joinF (f :: r) = f ++ 44 :: 32 :: joinF r := by
  cases r with
  | nil => exact absurd rfl h
  | cons a b => rfl
theorem join_split : ∀ (n : Nat) (s : Bs), s.length ≤ n → joinF (Lib.split s [44, 32]) = s
  | 0, s, h => by
    have : s = [] := List.length_eq_zero_iff.1 (by omega)
    subst this
    rw [split_miss (by simp [Lib.index])]; rfl
  | n + 1, s, h => by
    rcases Lib.index_spec s [44, 32] with ⟨hi, _⟩ | ⟨i, hi, hle, ho, _⟩
    · rw [split_miss hi]; rfl
    · have hr := Lib.index_room s [44, 32] (by omega)
      rw [hi] at hr
      have hr : i + 2 ≤ s.length := by simpa using (by exact_mod_cast hr : i + ([44, 32] : Bs).length ≤ s.length)
      rw [split_hit (by simp) hi, join_cons (split_ne _ _ (by simp)), join_split n _ (by simp; omega)]
      rw [Lib.occAt_iff_take s [44, 32] i (by simpa using hr)] at ho
      have ho := eq_of_beq ho
      have e : s = s.take i ++ (s.drop i).take 2 ++ (s.drop i).drop 2 := by rw [List.append_assoc, List.take_append_drop, List.take_append_drop]
      conv => rhs; rw [e]
      rw [show (s.drop i).take 2 = [44, 32] from ho, List.drop_drop]
      simp
theorem good_no {f : Bs} (h : goodF f = true) : f ≠ [] ∧ (∀ x ∈ f, x ≠ 32) ∧ (∀ x ∈ f, x ≠ 44) := by
  unfold goodF at h
  simp at h
  exact ⟨h.1, fun x hx => (h.2 x hx).1, fun x hx => (h.2 x hx).2⟩
theorem index_sep {f r : Bs} (h : ∀ x ∈ f, x ≠ 44) : Lib.index (f ++ 44 :: 32 :: r) [44, 32] = (f.length : Int) := by
  refine Lib.index_first (by simp) (by simp [Lib.occAt]) fun j hj => ?_
  cases ho : Lib.occAt (f ++ 44 :: 32 :: r) [44, 32] j with
  | false => rfl
  | true =>
    have := Lib.occAt_head rfl ho
    rw [List.getElem?_append_left hj] at this
    exact absurd rfl (h _ (List.mem_of_getElem? this))
theorem index_no {f : Bs} (h : ∀ x ∈ f, x ≠ 44) : Lib.index f [44, 32] = -1 := by
  refine Lib.index_none fun j _ => ?_
  cases ho : Lib.occAt f [44, 32] j with
  | false => rfl
  | true => exact absurd rfl (h _ (List.mem_of_getElem? (Lib.occAt_head rfl ho)))
theorem split_join : ∀ (fs : List Bs), fs ≠ [] → (∀ f ∈ fs, ∀ x ∈ f, x ≠ 44) → Lib.split (joinF fs) [44, 32] = fs
  | [], h, _ => absurd rfl h
  | [f], _, h => split_miss (index_no (h f (List.mem_cons_self ..)))
  | f :: g :: r, _, h => by
    rw [join_cons (by simp), split_hit (by simp) (index_sep (h f (List.mem_cons_self ..)))]
    have e : (f ++ 44 :: 32 :: joinF (g :: r)).drop (f.length + ([44, 32] : Bs).length) = joinF (g :: r) := by simp
    rw [e, split_join (g :: r) (by simp) fun q hq => h q (List.mem_cons_of_mem _ hq)]
    simp
/-- a line's fields, if they are -/
def fieldsS (s : Bs) : Option (List Bs) := if (Lib.split s [44, 32]).all goodF then some (Lib.split s [44, 32]) else none
theorem fieldsS_iff {s : Bs} {fs : List Bs} : fieldsS s = some fs ↔ fs ≠ [] ∧ s = joinF fs ∧ fs.all goodF = true := by
  unfold fieldsS
  constructor
  · intro h
    split at h
    · rename_i hg; cases h
      exact ⟨split_ne _ _ (by simp), (join_split _ _ (Nat.le_refl _)).symm, hg⟩
    · cases h
  · rintro ⟨h1, rfl, h2⟩
    have e := split_join fs h1 fun f hf x hx => (good_no (List.all_eq_true.1 h2 f hf)).2.2 x hx
    rw [e, if_pos h2]
/-- the document's way: cut at the commas; a blank ahead of each but the first -/
def refF : List Bs → Option (List Bs)
  | [] => some []
  | p :: r => match p with
    | 32 :: f => if !f.isEmpty && f.all (fun c => c != 32) then (refF r).map (f :: ·) else none
    | _ => none
def refFs : List Bs → Option (List Bs)
  | [] => none
  | f :: r => if !f.isEmpty && f.all (fun c => c != 32) then (refF r).map (f :: ·) else none
/-- pieces with one byte between them -/
def join1 (c : UInt8) : List Bs → Bs
  | [] => []
  | [f] => f
  | f :: g :: r => f ++ c :: join1 c (g :: r)
theorem cuts_app {c : UInt8} {r : Bs} : ∀ {f : Bs}, (∀ x ∈ f, x ≠ c) → cuts c (f ++ c :: r) = f :: cuts c r
  | [], _ => by simp [cuts]
  | x :: f, h => by
    show cuts c (x :: (f ++ c :: r)) = _
    conv => lhs; unfold cuts
    rw [if_neg (h x (List.mem_cons_self ..)), cuts_app fun y hy => h y (List.mem_cons_of_mem _ hy)]
end Go.Proofs.Abs
/- A line's words, by both ways. -/
namespace Go.Proofs.Abs
open Go
set_option linter.unusedVariables false
set_option linter.unusedSimpArgs false
/-- a line's first word, and its fields -/
def wordsS (s : Bs) : Option (Bs × List Bs) :=
  if (s.takeWhile (· != 32)).length = s.length then some (s, []) else (fieldsS (s.drop ((s.takeWhile (· != 32)).length + 1))).map fun fs => (s.takeWhile (· != 32), fs)
theorem index_sp : ∀ (s : Bs), Lib.index s [32] = if (s.takeWhile (· != 32)).length = s.length then -1 else ((s.takeWhile (· != 32)).length : Int)
  | [] => by simp [Lib.index]
  | x :: l => by
    by_cases e : x = 32
    · subst e
      rw [Lib.index]; simp [List.isPrefixOf]
    · have hp : ([32] : Bs).isPrefixOf (x :: l) = false := by simp [List.isPrefixOf, Ne.symm e]
      have hi : Lib.index (x :: l) [32] = if Lib.index l [32] == -1 then -1 else Lib.index l [32] + 1 := by rw [Lib.index, hp]; simp
      rw [hi, index_sp l, List.takeWhile_cons_of_pos (by simp [e])]
      by_cases h : (List.takeWhile (· != 32) l).length = l.length
      · rw [if_pos h, if_pos (by decide), if_pos (by rw [List.length_cons, List.length_cons, h])]
      · rw [if_neg h, if_neg (by rw [beq_iff_eq]; omega), if_neg (by rw [List.length_cons, List.length_cons]; omega)]; simp
theorem cutC_eq (s : ByteArray) (hs : s.size < 4294967281) : cutC s (mkB [32]) = some (if ((bs s).takeWhile (· != 32)).length = (bs s).length then (s, mkB [], false) else (mkB ((bs s).takeWhile (· != 32)), mkB ((bs s).drop (((bs s).takeWhile (· != 32)).length + 1)), true)) := by
  unfold cutC
  rw [if_pos hs]
  show some (mkB (Lib.cut (bs s) [32]).1, mkB (Lib.cut (bs s) [32]).2.1, (Lib.cut (bs s) [32]).2.2) = _
  unfold Lib.cut
  rw [index_sp]
  by_cases h : (List.takeWhile (· != 32) (bs s)).length = (bs s).length
  · rw [if_pos h, if_neg (by decide), if_pos h]; rfl
  · rw [if_neg h, if_pos (by omega), if_neg h, Int.toNat_natCast]
    have e : (bs s).take ((bs s).takeWhile (· != 32)).length = (bs s).takeWhile (· != 32) := (List.prefix_iff_eq_take.1 (List.takeWhile_prefix _)).symm
    show some (mkB ((bs s).take ((bs s).takeWhile (· != 32)).length), _) = _
    rw [e]; rfl
def okP (f : Bs) : Bool := !f.isEmpty && f.all (fun c => c != 32)
def tl32 : Bs → Option Bs
  | y :: f => if y = 32 then some f else none
  | [] => none
/-- one piece more -/
def spG (i : Nat) (o : List Bs) (p : Bs) : List Bs ⊕ (List Bs ⊕ Unit) := match (if i = 0 then some p else tl32 p) with
  | some f => if okP f then .inl (o ++ [f]) else .inr (.inr ())
  | none => .inr (.inr ())
theorem cuts_mem_le (c : UInt8) : ∀ (l : Bs), ∀ p ∈ cuts c l, p.length ≤ l.length
  | [], p, hp => by simp [cuts] at hp; subst hp; simp
  | x :: l, p, hp => by
    have ih := cuts_mem_le c l
    unfold cuts at hp
    split at hp
    · rcases List.mem_cons.1 hp with rfl | hp
      · simp
      · have := ih p hp; simp; omega
    · split at hp
      · rename_i h t hc
        rw [hc] at ih
        rcases List.mem_cons.1 hp with rfl | hp
        · have := ih h (List.mem_cons_self ..); simp; omega
        · have := ih p (List.mem_cons_of_mem _ hp); simp; omega
      · simp at hp; subst hp; simp
end Go.Proofs.Abs
/- The library's search for any of two signs; a line's words, by the program. -/
namespace Go.Proofs.Abs
open Go
set_option linter.unusedVariables false
set_option linter.unusedSimpArgs false
def sepC (c : UInt8) : Bool := c == 32 || c == 44
theorem get!_bs (s : ByteArray) (i : Nat) : s.get! i = (bs s).getD i 0 := by
  obtain ⟨d⟩ := s
  show d[i]! = d.toList.getD i 0
  rw [List.getD_eq_getElem?_getD]
  by_cases h : i < d.size
  · rw [getElem!_pos d i h, List.getElem?_eq_getElem (by simpa using h)]; simp
  · rw [getElem!_neg d i h, List.getElem?_eq_none (by simpa using h)]; rfl
theorem dec_lo {s : ByteArray} {i : Nat} {c : UInt8} (h : (bs s)[i]? = some c) (hc : c.toNat < 128) : runeAt s i = u8i c ∧ runeEnd s i = i + 1 := by
  have e : (s.get! (i + 0)).toNat = c.toNat := by rw [get!_bs, List.getD_eq_getElem?_getD, Nat.add_zero, h]; rfl
  have : Utf8.decode s i = (c.toNat, 1) := by
    unfold Utf8.decode
    simp only [e]
    rw [if_pos hc]
  unfold runeAt runeEnd
  rw [this]; exact ⟨rfl, rfl⟩
theorem dec_hi {s : ByteArray} {i : Nat} {c : UInt8} (h : (bs s)[i]? = some c) (hc : 128 ≤ c.toNat) : 128 ≤ runeAt s i ∧ i < runeEnd s i ∧ runeEnd s i ≤ (bs s).length ∧ ∀ j, i ≤ j → j < runeEnd s i → ∀ d, (bs s)[j]? = some d → 128 ≤ d.toNat := by
  have hl := len_of h
  have e : ∀ k, (s.get! (i + k)).toNat = ((bs s).getD (i + k) 0).toNat := fun k => by rw [get!_bs]
  have e0 : ((bs s).getD (i + 0) 0).toNat = c.toNat := by rw [List.getD_eq_getElem?_getD, Nat.add_zero, h]; rfl
  have hd : ∀ k d, (bs s)[i + k]? = some d → ((bs s).getD (i + k) 0).toNat = d.toNat := fun k d hd => by rw [List.getD_eq_getElem?_getD, hd]; rfl
  have key : ∀ n w, Utf8.decode s i = (n, w) → 128 ≤ n ∧ 1 ≤ w ∧ i + w ≤ (bs s).length ∧ ∀ k, k < w → 128 ≤ ((bs s).getD (i + k) 0).toNat := by
    intro n w hnw
    unfold Utf8.decode at hnw
    simp only [e, size_bs, e0] at hnw
    rw [if_neg (by omega)] at hnw
    have one : ∀ k, k < 1 → 128 ≤ ((bs s).getD (i + k) 0).toNat := fun k hk => by
      have : k = 0 := by omega
      subst this; rw [e0]; exact hc
    have bad : ((Utf8.runeError, 1) : Nat × Nat) = (n, w) → 128 ≤ n ∧ 1 ≤ w ∧ i + w ≤ (bs s).length ∧ ∀ k, k < w → 128 ≤ ((bs s).getD (i + k) 0).toNat := fun hh => by
      cases hh; exact ⟨by decide, Nat.le_refl _, by omega, one⟩
    split at hnw
    · rename_i h2
      simp only [Bool.and_eq_true, beq_iff_eq, decide_eq_true_eq] at h2
      split at hnw
      · rename_i h3
        cases hnw
        refine ⟨h3, by decide, by omega, fun k hk => ?_⟩
        have : k = 0 ∨ k = 1 := by omega
        rcases this with rfl | rfl
        · rw [e0]; exact hc
        · omega
      · exact bad hnw
    · split at hnw
      · rename_i h2
        simp only [Bool.and_eq_true, beq_iff_eq, decide_eq_true_eq] at h2
        split at hnw
        · rename_i h3
          simp only [Bool.and_eq_true, decide_eq_true_eq] at h3
          cases hnw
          refine ⟨by omega, by decide, by omega, fun k hk => ?_⟩
          have : k = 0 ∨ k = 1 ∨ k = 2 := by omega
          rcases this with rfl | rfl | rfl
          · rw [e0]; exact hc
          · omega
          · omega
        · exact bad hnw
      · split at hnw
        · rename_i h2
          simp only [Bool.and_eq_true, beq_iff_eq, decide_eq_true_eq] at h2
          split at hnw
          · rename_i h3
            simp only [Bool.and_eq_true, decide_eq_true_eq] at h3
            cases hnw
            refine ⟨by omega, by decide, by omega, fun k hk => ?_⟩
            have : k = 0 ∨ k = 1 ∨ k = 2 ∨ k = 3 := by omega
            rcases this with rfl | rfl | rfl | rfl
            · rw [e0]; exact hc
            · omega
            · omega
            · omega
          · exact bad hnw
        · exact bad hnw
  obtain ⟨⟨n, w⟩, hp⟩ : ∃ p, Utf8.decode s i = p := ⟨_, rfl⟩
  obtain ⟨k1, k2, k3, k4⟩ := key n w hp
  unfold runeAt runeEnd
  rw [hp]
  dsimp only
  refine ⟨by omega, by omega, by omega, fun j h1 h2 d hj => ?_⟩
  have := k4 (j - i) (by omega)
  rw [hd (j - i) d (by rw [show i + (j - i) = j by omega]; exact hj)] at this
  exact this
theorem enc_hi {r : Int} (h : 128 ≤ r) : (∃ a b, Utf8.encode r = mkB [a, b] ∧ 128 ≤ b.toNat) ∨ 3 ≤ (Utf8.encode r).size := by
  unfold Utf8.encode
  dsimp only
  have hc : 128 ≤ (if Utf8.valid r = true then r.toNat else Utf8.runeError) := by
    split
    · omega
    · decide
  generalize (if Utf8.valid r = true then r.toNat else Utf8.runeError) = c at hc
  rw [if_neg (by omega)]
  split
  · refine .inl ⟨_, _, rfl, ?_⟩
    simp; omega
  · right
    split
    · exact Nat.le_refl 3
    · exact Nat.le_succ 3
theorem sAt_mk (l : Bs) {i : Nat} {c : UInt8} (h : l[i]? = some c) : sAt (mkB l) (i : Int) = some (u8i c) := sAt_some h
/-- the rune r among the two signs -/
theorem rune_eq {r : Int} (h0 : 0 ≤ r) (h1 : r ≤ 1114111) : ∃ n, strings_IndexRune (mkB [32, 44]) r = some n ∧ (0 ≤ n ↔ r = 32 ∨ r = 44) := by
  unfold strings_IndexRune
  by_cases h : r < 128
  · rw [if_pos (by simp; omega)]
    refine ⟨_, rfl, ?_⟩
    have hw : (IntKind.wrap .u8 r).toNat.toUInt8 = UInt8.ofNat r.toNat := by
      simp only [IntKind.wrap, IntKind.bits, IntKind.signed]
      simp
      congr 1; omega
    show 0 ≤ Lib.indexByte [32, 44] (IntKind.wrap .u8 r).toNat.toUInt8 ↔ _
    rw [hw]
    have all : ((List.range 128).all fun n => decide (0 ≤ Lib.indexByte [32, 44] (UInt8.ofNat n)) == decide (n = 32 ∨ n = 44)) = true := by kernel_rfl
    have := List.all_eq_true.1 all r.toNat (List.mem_range.2 (by omega))
    rw [beq_iff_eq, Bool.eq_iff_iff, decide_eq_true_iff, decide_eq_true_iff] at this
    rw [this]; omega
  · have hno : ¬ (r = 32 ∨ r = 44) := by omega
    rw [if_neg (by simp; omega)]
    by_cases e : r = 65533
    · subst e
      rw [if_pos (by decide)]
      have : loopO (fun (x : Nat) => strings_IndexRune_L1 (mkB [32, 44]) x) 0 = some (.inl ()) := loopO_of (k := 3) (by kernel_rfl)
      rw [this]
      exact ⟨-1, rfl, by omega⟩
    · rw [if_neg (by simpa using e)]
      have hv : ∃ b, unicode_utf8_ValidRune r = some b := by unfold unicode_utf8_ValidRune; split; exact ⟨_, rfl⟩; split <;> exact ⟨_, rfl⟩
      obtain ⟨b, hb⟩ := hv
      rw [hb, bind1_some]
      cases b with
      | false => exact ⟨-1, rfl, by omega⟩
      | true =>
        rw [if_neg (by decide)]
        have hl : ∃ q, strings_IndexRune_L2 r (mkB [32, 44]) = some (.inr q) ∧ (q = .inl () ∨ q = .inr (-1)) := by
          unfold strings_IndexRune_L2
          rcases enc_hi (r := r) (by omega) with ⟨a, b, he, hb⟩ | h3
          · rw [he]
            have e1 : IntKind.wrap .i64 (((mkB [a, b]).size : Int) - 1) = 1 := rfl
            have e2 : IntKind.wrap .i64 (1 + 1) = 2 := rfl
            rw [e1, e2, if_pos (by decide)]
            have s1 : sAt (mkB [32, 44]) 1 = some 44 := rfl
            have s2 : sAt (mkB [a, b]) 1 = some (u8i b) := sAt_mk [a, b] (i := 1) rfl
            have s3 : sCut (mkB [32, 44]) 2 (mkB [32, 44]).size = some (mkB []) := rfl
            rw [s1, bind1_some, s2, bind1_some, if_pos (by unfold u8i; simp; omega), s3, bind1_some, bind1_some]
            have s4 : indexByteC (mkB []) (u8i b) = some (-1) := rfl
            rw [s4]
            exact ⟨_, rfl, .inr rfl⟩
          · have hs : (Utf8.encode r).size ≤ 4 := by
              unfold Utf8.encode
              dsimp only
              generalize (if Utf8.valid r = true then r.toNat else Utf8.runeError) = c
              split
              · exact Nat.le_of_ble_eq_true rfl
              · split
                · exact Nat.le_of_ble_eq_true rfl
                · split
                  · exact Nat.le_of_ble_eq_true rfl
                  · exact Nat.le_of_ble_eq_true rfl
            rw [if_neg]
            · exact ⟨_, rfl, .inl rfl⟩
            · rw [wrap_i64 _ (by omega) (by omega), size_mk]
              simp; omega
        obtain ⟨q, hq, hq2⟩ := hl
        have : loopO (fun (x : Unit) => strings_IndexRune_L2 r (mkB [32, 44])) () = some q := loopO_out hq
        rw [this]
        rcases hq2 with rfl | rfl
        · exact ⟨-1, rfl, by omega⟩
        · exact ⟨-1, rfl, by omega⟩
theorem rune_le (s : ByteArray) (i : Nat) : 0 ≤ runeAt s i ∧ runeAt s i ≤ 1114111 := by
  unfold runeAt Utf8.decode
  dsimp only
  have hg : ∀ k, (s.get! (i + k)).toNat < 256 := fun k => UInt8.toNat_lt _
  refine ⟨by omega, ?_⟩
  split
  · have := hg 0; dsimp only; omega
  · split
    · split
      · dsimp only; omega
      · decide
    · split
      · split
        · dsimp only; omega
        · decide
      · split
        · split
          · rename_i h; simp only [Utf8.valid, Bool.and_eq_true, Bool.or_eq_true, decide_eq_true_eq] at h; dsimp only; omega
          · decide
        · decide
/-- any sign of the two from a place on -/
theorem L3_eq (s : ByteArray) : ∀ (n i : Nat), (bs s).length - i ≤ n → i ≤ (bs s).length → ∃ q, loopO (fun (x : Nat) => strings_IndexAny_L3 s (mkB [32, 44]) x) i = some q ∧ (((bs s).drop i).any sepC = false → q = .inl ()) ∧ (((bs s).drop i).any sepC = true → ∃ k : Nat, q = .inr (k : Int))
  | n, i, hn, hi => by
    by_cases hlt : i < (bs s).length
    · obtain ⟨c, hc⟩ : ∃ c, (bs s)[i]? = some c := ⟨_, List.getElem?_eq_getElem hlt⟩
      have hd : (bs s).drop i = c :: (bs s).drop (i + 1) := by rw [List.drop_eq_getElem_cons hlt]; rw [List.getElem?_eq_getElem hlt] at hc; cases hc; rfl
      obtain ⟨m, hm, hm2⟩ := rune_eq (rune_le s i).1 (rune_le s i).2
      have step : strings_IndexAny_L3 s (mkB [32, 44]) i = some (if 0 ≤ m then .inr (.inr ((i : Nat) : Int)) else .inl (runeEnd s i)) := by
        unfold strings_IndexAny_L3
        rw [size_bs, if_pos hlt, hm, bind1_some]
        by_cases h : 0 ≤ m
        · simp [h]
        · rw [if_neg h, if_neg (by simpa using h)]
      by_cases hlo : c.toNat < 128
      · obtain ⟨r1, r2⟩ := dec_lo hc hlo
        rw [r1] at hm2
        have hsep : sepC c = true ↔ 0 ≤ m := by
          rw [hm2]; unfold sepC
          have a := u8i_eq c 32 (by decide); have b := u8i_eq c 44 (by decide)
          simp only [Bool.or_eq_true, beq_iff_eq]
          have a : (u8i c = 32) = (c = 32) := a
          have b : (u8i c = 44) = (c = 44) := b
          rw [a, b]
        by_cases h : 0 ≤ m
        · rw [if_pos h] at step
          refine ⟨_, loopO_out step, fun hf => ?_, fun _ => ⟨i, rfl⟩⟩
          rw [hd, List.any_cons, hsep.2 h] at hf; cases hf
        · rw [if_neg h, r2] at step
          have hsf : sepC c = false := by cases hs : sepC c; rfl; exact absurd (hsep.1 hs) h
          obtain ⟨q, q1, q2⟩ := L3_eq s (n - 1) (i + 1) (by omega) (by omega)
          refine ⟨q, by rw [loopO_go step]; exact q1, ?_⟩
          rw [hd, List.any_cons, hsf, Bool.false_or]; exact q2
      · obtain ⟨r1, r2, r3, r4⟩ := dec_hi hc (by omega)
        have h : ¬ 0 ≤ m := fun h => by have := hm2.1 h; omega
        rw [if_neg h] at step
        obtain ⟨q, q1, q2⟩ := L3_eq s (n - 1) (runeEnd s i) (by omega) r3
        refine ⟨q, by rw [loopO_go step]; exact q1, ?_⟩
        have e : ((bs s).drop i).any sepC = ((bs s).drop (runeEnd s i)).any sepC := by
          have e1 : (bs s).drop i = ((bs s).drop i).take (runeEnd s i - i) ++ (bs s).drop (runeEnd s i) := by
            conv => lhs; rw [← List.take_append_drop (runeEnd s i - i) ((bs s).drop i)]
            rw [List.drop_drop, show i + (runeEnd s i - i) = runeEnd s i by omega]
          rw [e1, List.any_append]
          have : (((bs s).drop i).take (runeEnd s i - i)).any sepC = false := by
            rw [List.any_eq_false]
            intro d hd2
            obtain ⟨k, hk, rfl⟩ := List.mem_iff_getElem.1 hd2
            rw [List.length_take, List.length_drop] at hk
            have hk2 : (bs s)[i + k]? = some ((((bs s).drop i).take (runeEnd s i - i))[k]'(by rw [List.length_take, List.length_drop]; omega)) := by
              rw [List.getElem_take, List.getElem_drop, List.getElem?_eq_getElem]
            have := r4 (i + k) (by omega) (by omega) _ hk2
            intro hsep
            unfold sepC at hsep
            simp only [Bool.or_eq_true, beq_iff_eq] at hsep
            rcases hsep with h | h <;> rw [h] at this <;> exact absurd this (by decide)
          rw [this, Bool.false_or]
        rw [e]; exact q2
    · have : i = (bs s).length := by omega
      subst this
      refine ⟨_, loopO_out (by unfold strings_IndexAny_L3; rw [size_bs, if_neg (Nat.lt_irrefl _)]), fun _ => rfl, fun h => ?_⟩
      rw [List.drop_length] at h; cases h
  termination_by n i => (bs s).length - i
def setA : Arr 256 Bool := ⟨(List.range 256).map fun i => decide (i = 32 ∨ i = 44), by simp⟩
theorem mkSet : strings_makeASCIISet (mkB [32, 44]) = some (setA, true) := by
  unfold strings_makeASCIISet
  have : loopO (fun (x : (Int × (Arr 256 Bool))) => strings_makeASCIISet_L1 (mkB [32, 44]) x.1 x.2) (0, (arrR 256 false : Arr 256 Bool)) = some (.inl setA) := loopO_of (k := 4) (by kernel_rfl)
  rw [this]; rfl
theorem setA_at (c : UInt8) : ga setA (u8i c) = some (sepC c) := by
  have all : ((List.range 256).all fun n => decide (ga setA (n : Int) = some (sepC (UInt8.ofNat n)))) = true := by kernel_rfl
  have := of_decide_eq_true (List.all_eq_true.1 all c.toNat (List.mem_range.2 c.toNat_lt))
  rw [UInt8.ofNat_toNat] at this
  exact this
theorem arB_inj : ∀ (x y : Arr 256 Bool), arB 256 x = arB 256 y → x = y := by
  intro x y h
  have e : ∀ (x : Arr 256 Bool), (List.range 256).map x.g = x.l := fun x => by
    apply List.ext_getElem?
    intro j
    rw [List.getElem?_map]
    have := x.h
    by_cases hj : j < 256
    · rw [List.getElem?_range hj]; show some (x.l[j]?.getD default) = _; rw [List.getElem?_eq_getElem (by omega)]; rfl
    · rw [List.getElem?_eq_none (by simpa using hj), List.getElem?_eq_none (by omega)]; rfl
  have h2 : (List.range 256).map x.g = (List.range 256).map y.g := by
    have := congrArg (List.map fun (c : MC) => match c.2 with | .bool b => b | _ => false) h
    unfold arB at this
    rw [List.map_map, List.map_map] at this
    exact this
  rw [e, e] at h2
  cases x; cases y; simp at h2; subst h2; rfl
theorem arB_len (x : Arr 256 Bool) : (o_r256_bool x).length = 256 := by unfold o_r256_bool arB; simp
theorem cont_any (H : Heap) (s : ByteArray) (hs : s.size < 4294967281) : ∃ E, strings_ContainsAny H s (mkB [32, 44]) = some (H ++ E, (bs s).any sepC) := by
  have fin : ∀ H' q, strings_IndexAny H s (mkB [32, 44]) = some (H', q) → strings_ContainsAny H s (mkB [32, 44]) = some (H', decide (q ≥ 0)) := fun H' q h => by unfold strings_ContainsAny; rw [h]; rfl
  unfold strings_IndexAny at fin
  have e0 : strEq (mkB [32, 44]) ByteArray.empty = false := by rw [strEq_nil]; rfl
  rw [e0, if_neg (by decide), if_neg (show ¬ (((mkB [32, 44]).size : Int) == 1) = true by decide)] at fin
  have e1 : strings_shouldUseASCIISet (s.size : Int) = some (decide ((s.size : Int) > 8)) := rfl
  rw [e1, bind1_some] at fin
  by_cases h8 : (s.size : Int) > 8
  · rw [if_pos (by simpa using h8), mkSet, bind2_some, bnd_def, bnd_def] at fin
    have g1 : get_r256_bool (new_r256_bool H (arrR 256 false)) H.length 0 = some (arrR 256 false) := by
      have := hgT_new (en := o_r256_bool) (n := 256) arB_inj arB_len H (arrR 256 false)
      exact this
    rw [g1, bind1_some, bnd_def, if_pos rfl] at fin
    have g2 : get_r256_bool (set_r256_bool (new_r256_bool H (arrR 256 false)) H.length 0 setA) H.length 0 = some setA := hgT_set (en := o_r256_bool) (n := 256) arB_inj arB_len g1 setA
    have e2 : set_r256_bool (new_r256_bool H (arrR 256 false)) H.length 0 setA = H ++ [o_r256_bool setA] := by
      unfold set_r256_bool new_r256_bool
      rw [hset_eq (c := o_r256_bool (arrR 256 false)) (by simp)]
      have : setAt (o_r256_bool (arrR 256 false)) 0 (o_r256_bool setA) = o_r256_bool setA := by
        unfold setAt; rw [arB_len]; rw [List.take_zero, List.drop_eq_nil_of_le (by rw [arB_len]; omega)]; simp
      rw [this]; simp
    have hl := loop_find (xs := bs s) (f := fun (x : Int) => strings_IndexAny_L4 s (set_r256_bool (new_r256_bool H (arrR 256 false)) H.length 0 setA) H.length x) (fun i c => if sepC c then some (.inr ((i : Nat) : Int)) else none) (.inl ())
      (fun i c hc => by
        have hl := len_of hc
        rw [size_bs] at hs
        unfold strings_IndexAny_L4 strings_asciiSet_contains
        rw [size_bs, i_lt hc, if_pos rfl, sAt_some hc, bind1_some, pbnd_at, g2, bind1_some, setA_at, bind1_some, bind1_some, wr64 i (by omega)]
        cases sepC c <;> rfl)
      (by unfold strings_IndexAny_L4; rw [size_bs, i_ge, if_neg (by decide)])
    rw [hl, bind1_some, e2] at fin
    refine ⟨[o_r256_bool setA], ?_⟩
    have key : ∀ (l : Bs) (i : Nat), (l.any sepC = false → findG (fun i c => if sepC c then some (.inr ((i : Nat) : Int) : Unit ⊕ Int) else none) (.inl ()) i l = .inl ()) ∧ (l.any sepC = true → ∃ k : Nat, findG (fun i c => if sepC c then some (.inr ((i : Nat) : Int) : Unit ⊕ Int) else none) (.inl ()) i l = .inr (k : Int)) := by
      intro l
      induction l with
      | nil => intro i; exact ⟨fun _ => rfl, fun h => by cases h⟩
      | cons c l ih =>
        intro i
        unfold findG
        rw [List.any_cons]
        cases hc : sepC c with
        | true => exact ⟨fun h => by simp at h, fun _ => ⟨i, rfl⟩⟩
        | false => rw [Bool.false_or]; exact ih (i + 1)
    cases ha : (bs s).any sepC with
    | false => rw [(key (bs s) 0).1 ha] at fin; exact fin _ _ rfl
    | true =>
      obtain ⟨k, hk⟩ := (key (bs s) 0).2 ha
      rw [hk] at fin
      have := fin _ _ rfl
      rw [decide_eq_true (show ((k : Nat) : Int) ≥ 0 by omega)] at this
      exact this
  · rw [if_neg (by simpa using h8)] at fin
    unfold strings_IndexAny_j2 at fin
    obtain ⟨q, q1, q2, q3⟩ := L3_eq s (bs s).length 0 (by omega) (Nat.zero_le _)
    rw [q1, bind1_some] at fin
    refine ⟨[], ?_⟩
    rw [List.append_nil]
    rw [List.drop_zero] at q2 q3
    cases ha : (bs s).any sepC with
    | false => rw [q2 ha] at fin; exact fin _ _ rfl
    | true =>
      obtain ⟨k, rfl⟩ := q3 ha
      have := fin _ _ rfl
      rw [decide_eq_true (show ((k : Nat) : Int) ≥ 0 by omega)] at this
      exact this
end Go.Proofs.Abs
/- A line's words, by the program. Numbers as texts. -/
namespace Go.Proofs.Abs
open Go
set_option linter.unusedVariables false
set_option linter.unusedSimpArgs false
theorem goodF_eq (f : Bs) : goodF f = !(decide (f = []) || f.any sepC) := by
  unfold goodF
  have : (f.all fun c => c != 32 && c != 44) = !f.any sepC := by
    rw [List.not_any_eq_all_not]
    congr 1
    funext c
    unfold sepC; simp; rfl
  rw [this]
  cases f <;> simp
theorem words_L1 (fl : List Bs) (hb : ∀ f ∈ fl, f.length < 4294967281) (hn : fl.length < 4294967281) : ∀ (l : List Bs) (i : Nat) (h : Heap), fl.drop i = l → i ≤ fl.length → ∃ E, loopO (fun (x : (Int × Heap)) => asm_words_L1 (fl.map mkB) x.1 x.2) ((i : Int), h) = some (if l.all goodF then .inl (h ++ E) else .inr (h ++ E))
  | [], i, h, hl, hi => by
    have : i = fl.length := by have := congrArg List.length hl; simp at this; omega
    subst this
    refine ⟨[], loopO_out ?_⟩
    unfold asm_words_L1
    have := i_ge (fl.map mkB)
    rw [List.length_map] at this ⊢
    rw [this, if_neg (by decide), List.append_nil]; rfl
  | x :: l, i, h, hl, hi => by
    have hx : fl[i]? = some x := by have := congrArg (·[0]?) hl; simpa using this
    have hlt := len_of hx
    have hx' : (fl.map mkB)[i]? = some (mkB x) := by rw [List.getElem?_map, hx]; rfl
    have hd : fl.drop (i + 1) = l := by rw [← List.drop_drop, hl]; rfl
    obtain ⟨E1, c1⟩ := cont_any h (mkB x) (by rw [size_mk]; exact hb x (List.mem_of_getElem? hx))
    have step : ∃ E0, asm_words_L1 (fl.map mkB) (i : Int) h = some (if goodF x then .inl (((i + 1 : Nat) : Int), h ++ E0) else .inr (.inr (h ++ E0))) := by
      unfold asm_words_L1
      rw [i_lt hx', if_pos rfl, gi_nat hx', bind1_some, strEq_nil, bs_mk, wr64 i (by omega), goodF_eq]
      by_cases e : x = []
      · refine ⟨[], ?_⟩
        rw [decide_eq_true e, if_pos rfl, bind2_some, if_pos rfl, List.append_nil]; rfl
      · have c2 : strings_ContainsAny h (mkB x) { data := #[32, 44] } = _ := c1
        rw [decide_eq_false e, if_neg (by decide), c2, bind2_some, bind2_some, bs_mk]
        refine ⟨E1, ?_⟩
        cases x.any sepC <;> rfl
    obtain ⟨E0, h0⟩ := step
    rw [List.all_cons]
    cases hg : goodF x with
    | false =>
      rw [hg] at h0
      exact ⟨E0, loopO_out h0⟩
    | true =>
      rw [hg] at h0
      obtain ⟨E2, h2⟩ := words_L1 fl hb hn l (i + 1) (h ++ E0) hd hlt
      refine ⟨E0 ++ E2, ?_⟩
      rw [loopO_go (s' := (((i + 1 : Nat) : Int), h ++ E0)) h0, h2, Bool.true_and, List.append_assoc]
theorem split_le : ∀ (n : Nat) (s : Bs), s.length ≤ n → (Lib.split s [44, 32]).length ≤ s.length + 1 ∧ ∀ f ∈ Lib.split s [44, 32], f.length ≤ s.length
  | n, s, h => by
    rcases Lib.index_spec s [44, 32] with ⟨hi, _⟩ | ⟨i, hi, hle, ho, _⟩
    · rw [split_miss hi]; simp
    · have hr := Lib.index_room s [44, 32] (by omega)
      rw [hi] at hr
      have hr : i + 2 ≤ s.length := by simpa using (by exact_mod_cast hr : i + ([44, 32] : Bs).length ≤ s.length)
      obtain ⟨i1, i2⟩ := split_le (n - 1) (s.drop (i + 2)) (by simp; omega)
      rw [split_hit (by simp) hi]
      have e2 : s.drop (i + ([44, 32] : Bs).length) = s.drop (i + 2) := rfl
      rw [e2]
      rw [List.length_drop] at i1 i2
      refine ⟨by simp; omega, fun f hf => ?_⟩
      rcases List.mem_cons.1 hf with rfl | hf
      · simp; omega
      · have := i2 f hf; omega
  termination_by n s => s.length
theorem asm_words_eq (H : Heap) (s : ByteArray) (hs : s.size < 4294967280) : ∃ E, asm_words H s = some (match wordsS (bs s) with
    | some (h, fs) => (H ++ E, mkB h, fs.map mkB, true)
    | none => (H ++ E, mkB [], [], false)) := by
  unfold asm_words wordsS
  have c : cutC s { data := #[32] } = _ := cutC_eq s (by omega)
  rw [c]
  by_cases e : ((bs s).takeWhile (· != 32)).length = (bs s).length
  · rw [if_pos e, if_pos e, bind3_some, if_pos (by decide)]
    exact ⟨[], by rw [List.append_nil]; rfl⟩
  · rw [if_neg e, if_neg e, bind3_some, if_neg (by decide)]
    generalize hr : (bs s).drop (((bs s).takeWhile (· != 32)).length + 1) = rest
    have hrl : rest.length ≤ (bs s).length := by rw [← hr]; simp
    rw [size_bs] at hs
    have sp : splitC (mkB rest) { data := #[44, 32] } = _ := splitC_eq (mkB rest) [44, 32] (by rw [size_mk]; omega) (by simp)
    rw [sp, bind1_some, bs_mk]
    obtain ⟨l1, l2⟩ := split_le _ rest (Nat.le_refl _)
    obtain ⟨E, hE⟩ := words_L1 (Lib.split rest [44, 32]) (fun f hf => by have := l2 f hf; omega) (by omega) _ 0 H rfl (Nat.zero_le _)
    have hE : loopO (fun (x : (Int × Heap)) => asm_words_L1 ((Lib.split rest [44, 32]).map mkB) x.1 x.2) (0, H) = _ := hE
    refine ⟨E, ?_⟩
    rw [hE, bind1_some]
    unfold fieldsS
    rw [List.drop_zero]
    cases hg : (Lib.split rest [44, 32]).all goodF <;> rfl
end Go.Proofs.Abs
/- Numbers as texts. -/
namespace Go.Proofs.Abs
open Go
set_option linter.unusedVariables false
set_option linter.unusedSimpArgs false
/-- digits of a number in a base, at least so many -/
def chD (d : Nat) : UInt8 := if d < 10 then UInt8.ofNat (48 + d) else UInt8.ofNat (87 + d)
def dg (b : Nat) : Nat → Nat → Nat → Bs → Bs
  | 0, _, _, acc => acc
  | k + 1, n, L, acc => if 0 < n ∨ 0 < L then dg b k (n / b) (L - 1) (chD (n % b) :: acc) else acc
def natD (m : Nat) : Bs := dg 10 64 m 1 []
def decS (n : Int) : Bs := if n < 0 then 45 :: natD (-n).toNat else natD n.toNat
theorem dg_zero (b k : Nat) (acc : Bs) : dg b k 0 0 acc = acc := by cases k <;> rfl
theorem dg_acc (b : Nat) : ∀ (k n L : Nat) (acc : Bs), dg b k n L acc = dg b k n L [] ++ acc
  | 0, _, _, _ => rfl
  | k + 1, n, L, acc => by
    unfold dg
    split
    · rw [dg_acc b k _ _ (_ :: acc), dg_acc b k _ _ [_]]; simp
    · rfl
theorem dg_fuel {b : Nat} (hb : 2 ≤ b) : ∀ (k j n L : Nat) (acc : Bs), n < 2 ^ k → L ≤ k → k ≤ j → dg b j n L acc = dg b k n L acc
  | 0, j, n, L, acc, h, hL, _ => by
    have h1 : n = 0 := by simpa using h
    have h2 : L = 0 := by omega
    subst h1; subst h2; rw [dg_zero]; rfl
  | k + 1, 0, n, L, acc, _, _, h => by omega
  | k + 1, j + 1, n, L, acc, h, hL, hj => by
    unfold dg
    split
    · have : n / b < 2 ^ k := by
        rw [Nat.div_lt_iff_lt_mul (by omega)]
        rw [Nat.pow_succ] at h
        exact Nat.lt_of_lt_of_le h (Nat.mul_le_mul_left _ hb)
      exact dg_fuel hb k j _ _ _ this (by omega) (by omega)
    · rfl
theorem natD_lo {m : Nat} (h : m < 10) : natD m = [UInt8.ofNat (48 + m)] := by
  unfold natD dg
  rw [if_pos (.inr (by decide)), Nat.div_eq_of_lt h, Nat.mod_eq_of_lt h, dg_zero]
  unfold chD; rw [if_pos h]
theorem natD_hi {m : Nat} (h : 10 ≤ m) (h2 : m < 18446744073709551616) : natD m = natD (m / 10) ++ [UInt8.ofNat (48 + m % 10)] := by
  have e : natD m = dg 10 63 (m / 10) 0 [chD (m % 10)] := by
    unfold natD
    conv => lhs; unfold dg
    rw [if_pos (.inr (by decide))]
  have hc : chD (m % 10) = UInt8.ofNat (48 + m % 10) := if_pos (by omega)
  have h0 : dg 10 63 (m / 10) 0 [] = dg 10 63 (m / 10) 1 [] := by
    unfold dg
    have : 0 < m / 10 := by omega
    rw [if_pos (.inl this), if_pos (.inl this)]
  rw [e, dg_acc, hc, h0]
  unfold natD
  rw [dg_fuel (by decide) 63 64 _ _ _ (by omega) (by decide) (by decide)]
def isD (c : UInt8) : Bool := decide (48 ≤ c.toNat ∧ c.toNat ≤ 57)
def valF (n : Nat) (l : Bs) : Nat := l.foldl (fun n c => n * 10 + (c.toNat - 48)) n
def valS (l : Bs) : Nat := valF 0 l
def canon (d : Bs) : Bool := !d.isEmpty && (d.all isD && (decide (d.length ≤ 1) || !(d.head? == some 48)))
theorem ofNat_dig {m : Nat} (h : m < 10) : (UInt8.ofNat (48 + m)).toNat = 48 + m := by simp; omega
theorem natD_spec : ∀ (k m : Nat), m < 10 ^ k → 1 ≤ k → k ≤ 19 → natD m ≠ [] ∧ (natD m).all isD = true ∧ (natD m).length ≤ k ∧ valS (natD m) = m ∧ (1 ≤ m → (natD m).head? ≠ some 48) ∧ (m < 10 → (natD m).length = 1)
  | 0, m, _, h, _ => by omega
  | k + 1, m, h, _, hk => by
    by_cases h10 : m < 10
    · rw [natD_lo h10]
      have := ofNat_dig h10
      refine ⟨by simp, by simp [isD]; omega, by simp, ?_, fun hm e => ?_, fun _ => rfl⟩
      · simp only [valS, valF, List.foldl_cons, List.foldl_nil]; rw [this]; omega
      · have e : UInt8.ofNat (48 + m) = 48 := by simpa using e
        rw [e] at this
        have : 48 = 48 + m := this
        omega
    · have hm : m < 18446744073709551616 := by
        have : 10 ^ (k + 1) ≤ 10 ^ 19 := Nat.pow_le_pow_right (by decide) hk
        omega
      have hk1 : 1 ≤ k := by
        cases k with
        | zero => simp at h; omega
        | succ k => omega
      rw [Nat.pow_succ] at h
      obtain ⟨i1, i2, i3, i4, i5, i6⟩ := natD_spec k (m / 10) (by omega) hk1 (by omega)
      rw [natD_hi (by omega) hm]
      have := ofNat_dig (m := m % 10) (by omega)
      refine ⟨by simp, ?_, by simp; omega, ?_, fun _ => ?_, fun h => absurd h h10⟩
      · rw [List.all_append, i2]; simp [isD]; omega
      · unfold valS valF at i4 ⊢
        rw [List.foldl_append, i4]
        simp only [List.foldl_cons, List.foldl_nil]; rw [this]; omega
      · rw [List.head?_append]
        cases hh : (natD (m / 10)).head? with
        | none => rw [List.head?_eq_none_iff] at hh; exact absurd hh i1
        | some c => rw [hh] at i5; simpa using i5 (by omega)
theorem valF_ge : ∀ (l : Bs) (n : Nat), n ≤ valF n l
  | [], n => Nat.le_refl _
  | c :: l, n => by
    have := valF_ge l (n * 10 + (c.toNat - 48))
    show n ≤ valF (n * 10 + (c.toNat - 48)) l
    omega
theorem valF_lt : ∀ (l : Bs) (n : Nat), l.all isD = true → valF n l < (n + 1) * 10 ^ l.length
  | [], n, _ => by simp [valF]
  | c :: l, n, h => by
    simp only [List.all_cons, Bool.and_eq_true] at h
    have hc : 48 ≤ c.toNat ∧ c.toNat ≤ 57 := of_decide_eq_true h.1
    have := valF_lt l (n * 10 + (c.toNat - 48)) h.2
    show valF (n * 10 + (c.toNat - 48)) l < _
    rw [List.length_cons, Nat.pow_succ]
    have h2 : (n * 10 + (c.toNat - 48) + 1) * 10 ^ l.length ≤ ((n + 1) * 10) * 10 ^ l.length := Nat.mul_le_mul_right _ (by omega)
    have h3 : (n + 1) * 10 * 10 ^ l.length = (n + 1) * (10 ^ l.length * 10) := by rw [Nat.mul_assoc, Nat.mul_comm 10]
    omega
theorem valS_lt {l : Bs} (h : l.all isD = true) : valS l < 10 ^ l.length := by have := valF_lt l 0 h; simpa [valS] using this
theorem natD_val : ∀ (n : Nat) (d : Bs), d.length = n → canon d = true → n ≤ 19 → natD (valS d) = d
  | 0, d, h, hc, _ => by rw [List.length_eq_zero_iff.1 h] at hc; cases hc
  | n + 1, d, h, hc, hn => by
    have hne : d ≠ [] := by intro e; subst e; cases h
    obtain ⟨d', c, rfl⟩ : ∃ d' c, d = d' ++ [c] := ⟨d.dropLast, d.getLast hne, (List.dropLast_concat_getLast hne).symm⟩
    have hl : d'.length = n := by simpa using h
    unfold canon at hc
    rw [List.all_append] at hc
    simp only [Bool.and_eq_true, List.all_cons, List.all_nil, Bool.or_eq_true, decide_eq_true_eq, Bool.not_eq_true', beq_eq_false_iff_ne] at hc
    have hd : 48 ≤ c.toNat ∧ c.toNat ≤ 57 := of_decide_eq_true hc.2.1.2.1
    have hv : valS (d' ++ [c]) = valS d' * 10 + (c.toNat - 48) := by unfold valS valF; rw [List.foldl_append]; rfl
    have hcc : UInt8.ofNat (48 + (c.toNat - 48)) = c := by rw [show 48 + (c.toNat - 48) = c.toNat by omega, UInt8.ofNat_toNat]
    rw [hv]
    cases n with
    | zero =>
      have : d' = [] := List.length_eq_zero_iff.1 hl
      subst this
      show natD (0 * 10 + (c.toNat - 48)) = [c]
      rw [natD_lo (by omega), Nat.zero_mul, Nat.zero_add, hcc]
    | succ n =>
      have hne' : d' ≠ [] := by intro e; subst e; cases hl
      have hh : d'.head? ≠ some 48 := by
        rcases hc.2.2 with h | h
        · rw [List.length_append, List.length_cons, List.length_nil] at h; omega
        · rw [List.head?_append] at h
          intro e; rw [e] at h; simp at h
      have hpos : 1 ≤ valS d' := by
        cases d' with
        | nil => exact absurd rfl hne'
        | cons x r =>
          have hx : 48 ≤ x.toNat ∧ x.toNat ≤ 57 := by have := hc.2.1.1; simp only [List.all_cons, Bool.and_eq_true] at this; exact of_decide_eq_true this.1
          have hx2 : x.toNat ≠ 48 := fun e => hh (by show some x = some 48; rw [show x = 48 from UInt8.toNat_inj.1 e])
          have := valF_ge r (0 * 10 + (x.toNat - 48))
          show 1 ≤ valF (0 * 10 + (x.toNat - 48)) r
          omega
      have hlt := valS_lt hc.2.1.1
      have hp : 10 ^ d'.length ≤ 10 ^ 18 := Nat.pow_le_pow_right (by decide) (by omega)
      have hlt2 : valS d' < 1000000000000000000 := Nat.lt_of_lt_of_le hlt hp
      rw [natD_hi (m := valS d' * 10 + (c.toNat - 48)) (by omega) (by omega), show (valS d' * 10 + (c.toNat - 48)) / 10 = valS d' by clear hpos; omega, show (valS d' * 10 + (c.toNat - 48)) % 10 = c.toNat - 48 by clear hpos; omega, hcc,
        natD_val (n + 1) d' hl (by unfold canon; simp only [Bool.and_eq_true, Bool.or_eq_true, decide_eq_true_eq, Bool.not_eq_true', beq_eq_false_iff_ne]; exact ⟨by cases d'; exact absurd rfl hne'; rfl, hc.2.1.1, .inr hh⟩) (by omega)]
theorem natD_canon {m : Nat} (h : m < 10000000000) : canon (natD m) = true ∧ (natD m).length ≤ 10 := by
  obtain ⟨i1, i2, i3, i4, i5, i6⟩ := natD_spec 10 m h (by decide) (by decide)
  refine ⟨?_, i3⟩
  unfold canon
  simp only [Bool.and_eq_true, Bool.or_eq_true, decide_eq_true_eq, Bool.not_eq_true', beq_eq_false_iff_ne]
  refine ⟨by cases hh : natD m; exact absurd hh i1; rfl, i2, ?_⟩
  by_cases h10 : m < 10
  · left; rw [i6 h10]; exact Nat.le_refl _
  · right; exact i5 (by omega)
/-- the number that a text tells -/
def parseS (l : Bs) : Option Int :=
  if l.head? = some 45 then (if canon l.tail ∧ l.tail.length ≤ 10 ∧ l.tail ≠ [48] ∧ valS l.tail ≤ 2147483648 then some (-(valS l.tail : Int)) else none)
  else if canon l ∧ l.length ≤ 10 ∧ valS l ≤ 2147483647 then some (valS l : Int) else none
theorem natD_hd {m : Nat} (h : m < 10000000000) : (natD m).head? ≠ some 45 := by
  obtain ⟨i1, i2, _⟩ := natD_spec 10 m h (by decide) (by decide)
  cases hh : natD m with
  | nil => exact absurd hh i1
  | cons x r =>
    rw [hh] at i2
    simp only [List.all_cons, Bool.and_eq_true] at i2
    have := of_decide_eq_true i2.1
    intro e
    have e : x = 45 := by simpa using e
    subst e
    exact absurd this (by decide)
theorem dec_parse {l : Bs} {n : Int} (h : parseS l = some n) : decS n = l := by
  unfold parseS at h
  split at h
  · rename_i h0
    split at h
    · rename_i hc
      cases h
      obtain ⟨c1, c2, c3, c4⟩ := hc
      have hl : l = 45 :: l.tail := by cases l with
        | nil => cases h0
        | cons x r => have : x = 45 := by simpa using h0
                      rw [this]; rfl
      have hv : valS l.tail ≠ 0 := fun e => by
        have := natD_val _ _ rfl c1 (by omega)
        rw [e] at this
        exact c3 (this.symm.trans (natD_lo (by decide)))
      unfold decS
      rw [if_pos (by omega), Int.neg_neg, Int.toNat_natCast, natD_val _ _ rfl c1 (by omega)]
      exact hl.symm
    · cases h
  · split at h
    · rename_i hc
      cases h
      unfold decS
      rw [if_neg (by omega), Int.toNat_natCast, natD_val _ _ rfl hc.1 (by omega)]
    · cases h
theorem parse_dec {n : Int} (h1 : -2147483648 ≤ n) (h2 : n ≤ 2147483647) : parseS (decS n) = some n := by
  unfold decS parseS
  by_cases h : n < 0
  · rw [if_pos h]
    obtain ⟨c1, c2⟩ := natD_canon (m := (-n).toNat) (by omega)
    obtain ⟨_, _, _, i4, _⟩ := natD_spec 10 (-n).toNat (by omega) (by decide) (by decide)
    have hz : natD (-n).toNat ≠ [48] := fun e => by
      rw [e] at i4
      have : valS [48] = 0 := rfl
      omega
    rw [if_pos (show (45 :: natD (-n).toNat).head? = some 45 from rfl), List.tail_cons, if_pos ⟨c1, c2, hz, by rw [i4]; omega⟩, i4]
    congr 1; omega
  · rw [if_neg h]
    obtain ⟨c1, c2⟩ := natD_canon (m := n.toNat) (by omega)
    obtain ⟨_, _, _, i4, _⟩ := natD_spec 10 n.toNat (by omega) (by decide) (by decide)
    rw [if_neg (natD_hd (by omega)), if_pos ⟨c1, c2, by rw [i4]; omega⟩, i4]
    congr 1; omega
theorem parse_iff {l : Bs} {n : Int} : parseS l = some n ↔ decS n = l ∧ -2147483648 ≤ n ∧ n ≤ 2147483647 := by
  constructor
  · intro h
    refine ⟨dec_parse h, ?_⟩
    unfold parseS at h
    split at h
    · split at h
      · rename_i hc; cases h; omega
      · cases h
    · split at h
      · rename_i hc; cases h; omega
      · cases h
  · rintro ⟨rfl, h1, h2⟩; exact parse_dec h1 h2
end Go.Proofs.Abs
/- Numbers written, and read: the program and the document. -/
namespace Go.Proofs.Abs
open Go
set_option linter.unusedVariables false
set_option linter.unusedSimpArgs false
theorem wrap_u8 (x : Int) (h1 : 0 ≤ x) (h2 : x ≤ 255) : IntKind.u8.wrap x = x := by
  simp only [IntKind.wrap, IntKind.bits, IntKind.signed]
  simp
  omega
theorem wrap_i32_mod (x : Int) : IntKind.i32.wrap x = (x + 2147483648) % 4294967296 - 2147483648 := by
  simp only [IntKind.wrap, IntKind.bits, IntKind.signed]
  simp
  omega
theorem wrap_i32 (x : Int) (h1 : -2147483648 ≤ x) (h2 : x ≤ 2147483647) : IntKind.i32.wrap x = x := by rw [wrap_i32_mod]; omega
theorem u8i_of {n : Nat} (h : n < 256) : u8i (UInt8.ofNat n) = n := by unfold u8i; simp; omega
theorem u8i_chD {d : Nat} (h : d < 16) : u8i (chD d) = if d < 10 then ((48 + d : Nat) : Int) else ((87 + d : Nat) : Int) := by
  unfold chD
  split
  · rw [u8i_of (by omega)]
  · rw [u8i_of (by omega)]
theorem digits_L1 {b M : Nat} {p2 : Int} (hb : 2 ≤ b) (hb2 : b ≤ 16) (hM : (if 1 > p2 then 1 else p2) = (M : Int)) (hM2 : M ≤ 64) :
    ∀ (k n : Nat) (arr : Arr 64 Int) (acc : Bs), k ≤ 64 → n < 2 ^ k → arr.l.drop k = acc.map u8i → ∃ (j : Nat) (ar' : Arr 64 Int), loopO (fun (x : (Int × Int × (Arr 64 Int))) => word_digits_L1 p2 (b : Int) x.1 x.2.1 x.2.2) ((n : Int), (k : Int), arr) = some ((j : Int), ar') ∧ j ≤ 64 ∧ ar'.l.drop j = (dg b k n (M + k - 64) acc).map u8i := by
  intro k
  induction k with
  | zero =>
    intro n arr acc hk hn ha
    have : n = 0 := by simpa using hn
    subst this
    refine ⟨0, arr, loopO_out ?_, Nat.zero_le _, ?_⟩
    · unfold word_digits_L1; rw [if_neg (by simp)]
    · rw [show M + 0 - 64 = 0 by omega]; exact ha
  | succ k ih =>
    intro n arr acc hk hn ha
    have hn64 : n < 18446744073709551616 := Nat.lt_of_lt_of_le hn (Nat.pow_le_pow_right (by decide) hk : 2 ^ (k + 1) ≤ 2 ^ 64)
    have hcond : (((decide ((n : Int) > 0)) || ((decide (((k + 1 : Nat) : Int) > (IntKind.wrap .i64 (64 - (if 1 > p2 then 1 else p2))))) && (decide (((k + 1 : Nat) : Int) > 0)))) = true) ↔ 0 < n ∨ 0 < M + (k + 1) - 64 := by
      rw [hM, wrap_i64 _ (by omega) (by omega)]
      simp only [Bool.or_eq_true, Bool.and_eq_true, decide_eq_true_eq]
      omega
    by_cases hc : 0 < n ∨ 0 < M + (k + 1) - 64
    · have hd : n % b < b := Nat.mod_lt _ (by omega)
      have hq : n / b < 2 ^ k := by
        rw [Nat.div_lt_iff_lt_mul (by omega)]
        rw [Nat.pow_succ] at hn
        exact Nat.lt_of_lt_of_le hn (Nat.mul_le_mul_left _ hb)
      have hlen := arr.h
      let ar2 : Arr 64 Int := ⟨arr.l.set k (u8i (chD (n % b))), by rw [List.length_set, arr.h]⟩
      have hdrop : ar2.l.drop k = (chD (n % b) :: acc).map u8i := by
        show (arr.l.set k _).drop k = _
        rw [List.drop_eq_getElem_cons (by rw [List.length_set]; omega), List.getElem_set_self, List.drop_set_of_lt (by omega), ha]
        rfl
      obtain ⟨j, ar', h1, h2, h3⟩ := ih (n / b) ar2 (chD (n % b) :: acc) (by omega) hq hdrop
      have hr : remI .u64 (n : Int) (b : Int) = some ((n % b : Nat) : Int) := by
        unfold remI
        rw [if_neg (by omega), tmod_pos (by omega)]; simp
      have hqi : quoI .u64 (n : Int) (b : Int) = some ((n / b : Nat) : Int) := by
        unfold quoI
        have : n / b ≤ n := Nat.div_le_self _ _
        have e : (n : Int) / (b : Int) = ((n / b : Nat) : Int) := rfl
        rw [if_neg (by omega), tdiv_pos (by omega), e, wrap_u64 _ (Int.natCast_nonneg _) (by omega)]
      have hk1 : IntKind.wrap .i64 (((k + 1 : Nat) : Int) - 1) = (k : Int) := by rw [wrap_i64 _ (by omega) (by omega)]; omega
      have hga : ∃ v, ga arr (k : Int) = some v := by
        unfold ga; rw [if_pos (by omega), Int.toNat_natCast, List.getElem?_eq_getElem (by omega)]; exact ⟨_, rfl⟩
      obtain ⟨v, hv⟩ := hga
      have hsa : sa arr (k : Int) (u8i (chD (n % b))) = some ar2 := by
        unfold sa; rw [if_pos (show 0 ≤ (k : Int) ∧ (k : Int) < (64 : Nat) from ⟨by omega, by omega⟩)]; rfl
      refine ⟨j, ar', ?_, h2, ?_⟩
      · rw [loopO_go (s' := (((n / b : Nat) : Int), (k : Int), ar2)) ?_]
        · exact h1
        · unfold word_digits_L1
          dsimp only
          rw [if_pos (hcond.2 hc), hr, bind1_some, hk1, hv, bind1_some, wrap_u8 ((n % b : Nat) : Int) (by omega) (by omega), bind1_some]
          unfold word_digits_j2
          have hch := u8i_chD (d := n % b) (by omega)
          by_cases h10 : n % b < 10
          · rw [if_pos h10] at hch
            rw [if_pos (by simp; omega), wrap_u8 _ (by omega) (by omega), show (48 + ((n % b : Nat) : Int)) = u8i (chD (n % b)) by rw [hch]; omega, hsa, bind1_some, hqi, bind1_some, hk1]
          · rw [if_neg h10] at hch
            rw [if_neg (by simp; omega), wrap_u8 (97 + _) (by omega) (by omega), wrap_u8 _ (by omega) (by omega), show (97 + ((n % b : Nat) : Int) - 10) = u8i (chD (n % b)) by rw [hch]; omega, hsa, bind1_some, hqi, bind1_some, hk1]
      · conv => rhs; unfold dg
        rw [if_pos hc, h3, show M + (k + 1) - 64 - 1 = M + k - 64 by omega]
    · refine ⟨k + 1, arr, loopO_out ?_, hk, ?_⟩
      · unfold word_digits_L1
        dsimp only
        rw [if_neg (fun h => hc (hcond.1 h))]
      · conv => rhs; unfold dg
        rw [if_neg hc]; exact ha
theorem sOf_u8 (l : Bs) : sOf (l.map u8i) = mkB l := by
  have : ∀ (l : Bs) (r : ByteArray), (l.map u8i).foldl (fun r n => r.push (UInt8.ofNat n.toNat)) r = mkB (bs r ++ l) := by
    intro l
    induction l with
    | nil => intro r; show r = mkB (bs r ++ []); rw [List.append_nil, mk_bs]
    | cons c l ih =>
      intro r
      rw [List.map_cons, List.foldl_cons, ih]
      have : UInt8.ofNat (u8i c).toNat = c := by unfold u8i; simp
      rw [this]
      have : bs (r.push c) = bs r ++ [c] := by show (r.data.push c).toList = _; simp [bs]
      rw [this, List.append_assoc]; rfl
  exact this l ByteArray.empty
theorem arr_map (a : Arr 64 Int) : (List.range 64).map a.g = a.l := by
  apply List.ext_getElem?
  intro j
  rw [List.getElem?_map]
  have := a.h
  by_cases hj : j < 64
  · rw [List.getElem?_range hj]; show some (a.l[j]?.getD default) = _; rw [List.getElem?_eq_getElem (by omega)]; rfl
  · rw [List.getElem?_eq_none (by simpa using hj), List.getElem?_eq_none (by omega)]; rfl
theorem digits_eq {b M : Nat} {p2 : Int} (hb : 2 ≤ b) (hb2 : b ≤ 16) (hM : (if 1 > p2 then 1 else p2) = (M : Int)) (hM2 : M ≤ 64) {n : Nat} (hn : n < 18446744073709551616) : word_digits (n : Int) (b : Int) p2 = some (mkB (dg b 64 n M [])) := by
  obtain ⟨j, ar', h1, h2, h3⟩ := digits_L1 hb hb2 hM hM2 64 n (arrR 64 0) [] (Nat.le_refl _) hn (by unfold arrR; simp)
  have h1 : loopO (fun (x : (Int × Int × (Arr 64 Int))) => word_digits_L1 p2 (b : Int) x.1 x.2.1 x.2.2) ((n : Int), 64, (arrR 64 0 : Arr 64 Int)) = _ := h1
  unfold word_digits
  rw [h1, bind1_some]
  unfold tup2
  dsimp only
  rw [arr_map]
  have hl := ar'.h
  have : cut ar'.l (j : Int) 64 = some (ar'.l.drop j) := by
    unfold cut
    rw [if_pos ⟨by omega, by omega, by omega⟩, show (64 : Int).toNat = 64 from rfl, List.take_of_length_le (by omega), Int.toNat_natCast]
  rw [this, bind1_some, h3, sOf_u8, Nat.add_sub_cancel]
theorem natD_len (m : Nat) (h : m < 18446744073709551616) : (natD m).length ≤ 20 := by
  have h2 : m / 10 < 10 ^ 19 := by omega
  by_cases h10 : m < 10
  · rw [natD_lo h10]; simp
  · obtain ⟨_, _, h3, _⟩ := natD_spec 19 (m / 10) h2 (by decide) (by decide)
    rw [natD_hi (by omega) h]; simp; omega
theorem word_Text_eq {n : Int} (h1 : -9223372036854775808 < n) (h2 : n ≤ 9223372036854775807) : word_Text n = some (mkB (decS n)) := by
  unfold word_Text decS
  by_cases h : n < 0
  · have e : IntKind.wrap .u64 (IntKind.wrap .i64 (0 - n)) = (((-n).toNat : Nat) : Int) := by rw [wrap_i64 _ (by omega) (by omega), wrap_u64 _ (by omega) (by omega)]; omega
    have hd := digits_eq (b := 10) (M := 1) (p2 := 1) (by decide) (by decide) rfl (by decide) (n := (-n).toNat) (by omega)
    have hd : word_digits (((-n).toNat : Nat) : Int) 10 1 = _ := hd
    have hl := natD_len (-n).toNat (by omega)
    rw [if_pos (by simpa using h), e, hd, bind1_some, if_pos h]
    have hc : sCat { data := #[45] } (mkB (natD (-n).toNat)) = some (mkB (45 :: natD (-n).toNat)) := sCat_some (x := mkB [45]) (by rw [bs_mk, bs_mk]; simp; omega)
    show bind1 (sCat _ (mkB (natD (-n).toNat))) _ = _
    rw [hc]; rfl
  · have e : IntKind.wrap .u64 n = ((n.toNat : Nat) : Int) := by rw [wrap_u64 _ (by omega) (by omega)]; omega
    have hd := digits_eq (b := 10) (M := 1) (p2 := 1) (by decide) (by decide) rfl (by decide) (n := n.toNat) (by omega)
    have hd : word_digits ((n.toNat : Nat) : Int) 10 1 = _ := hd
    rw [if_neg (by simpa using h), e, hd, if_neg h]; rfl
/-- the document's digits -/
theorem rText_L1 : ∀ (k m : Nat) (acc : Bs) (sg : Bool), m < 10 ^ k → 1 ≤ k → k ≤ 19 → acc.length + k ≤ 100 → (sg = true → 1 ≤ m ∨ True) → loopO (fun (x : (ByteArray × Int)) => ref01_Text_L1 x.1 x.2) (mkB acc, if sg then -(m : Int) else (m : Int)) = some (mkB (natD m ++ acc))
  | 0, _, _, _, _, h, _, _, _ => by omega
  | k + 1, m, acc, sg, hm, _, hk, hl, _ => by
    have hm64 : m < 10000000000000000000 := Nat.lt_of_lt_of_le hm (Nat.pow_le_pow_right (by decide) hk : 10 ^ (k + 1) ≤ 10 ^ 19)
    have ed : Int.tmod (if sg then -(m : Int) else (m : Int)) 10 = if sg then -((m % 10 : Nat) : Int) else ((m % 10 : Nat) : Int) := by
      cases sg with
      | true => simp only [if_true]; rw [Int.neg_tmod, tmod_pos (by omega)]; simp
      | false => show Int.tmod (m : Int) 10 = _; rw [tmod_pos (by omega)]; simp
    have eq : Int.tdiv (if sg then -(m : Int) else (m : Int)) 10 = if sg then -((m / 10 : Nat) : Int) else ((m / 10 : Nat) : Int) := by
      cases sg with
      | true => simp only [if_true]; rw [Int.neg_tdiv, tdiv_pos (by omega)]; simp
      | false => show Int.tdiv (m : Int) 10 = _; rw [tdiv_pos (by omega)]; simp
    have hs : sCat (mkB [UInt8.ofNat (48 + m % 10)]) (mkB acc) = some (mkB (UInt8.ofNat (48 + m % 10) :: acc)) := sCat_some (by rw [bs_mk, bs_mk]; simp; omega)
    have hsO : ∀ j : Int, j = ((m % 10 : Nat) : Int) → sOf ([IntKind.wrap .u8 (IntKind.wrap .i64 (48 + j))] : List Int) = mkB [UInt8.ofNat (48 + m % 10)] := by
      rintro j rfl
      rw [wrap_i64 _ (by omega) (by omega), wrap_u8 _ (by omega) (by omega), ← sOf_u8, List.map_cons, List.map_nil, u8i_of (by omega)]; rfl
    have step : ref01_Text_L1 (mkB acc) (if sg then -(m : Int) else (m : Int)) = some (if m < 10 then .inr (mkB (UInt8.ofNat (48 + m % 10) :: acc)) else .inl (mkB (UInt8.ofNat (48 + m % 10) :: acc), if sg then -((m / 10 : Nat) : Int) else ((m / 10 : Nat) : Int))) := by
      have j2 : ∀ j : Int, j = ((m % 10 : Nat) : Int) → ref01_Text_j2 (mkB acc) (if sg then -(m : Int) else (m : Int)) j = some (if m < 10 then .inr (mkB (UInt8.ofNat (48 + m % 10) :: acc)) else .inl (mkB (UInt8.ofNat (48 + m % 10) :: acc), if sg then -((m / 10 : Nat) : Int) else ((m / 10 : Nat) : Int))) := by
        intro j hj
        unfold ref01_Text_j2
        rw [hsO j hj, hs, bind1_some, eq, wrap_i64 _ (by split <;> omega) (by split <;> omega)]
        by_cases h10 : m < 10
        · have : m / 10 = 0 := Nat.div_eq_of_lt h10
          rw [if_pos h10, this]
          cases sg <;> rfl
        · rw [if_neg h10, if_neg]
          rw [beq_iff_eq]; split <;> omega
      unfold ref01_Text_L1
      rw [ed]
      cases sg with
      | true =>
        by_cases h0 : m % 10 = 0
        · rw [if_neg (by simp [h0]), j2 _ (by simp [h0])]
        · rw [if_pos (by simp; omega), j2 _ (by rw [wrap_i64 _ (by simp only [if_true]; omega) (by simp only [if_true]; omega)]; simp)]
      | false => rw [if_neg (by simp; omega)]; exact j2 _ rfl
    by_cases h10 : m < 10
    · rw [if_pos h10] at step
      rw [loopO_out step, natD_lo h10, Nat.mod_eq_of_lt h10]; rfl
    · rw [if_neg h10] at step
      have hk1 : 1 ≤ k := by
        cases k with
        | zero => simp at hm; omega
        | succ k => omega
      rw [Nat.pow_succ] at hm
      rw [loopO_go step, rText_L1 k (m / 10) _ sg (by omega) hk1 (by omega) (by simp; omega) (fun _ => .inr trivial), natD_hi (m := m) (by omega) (by omega), List.append_assoc]; rfl
theorem ref01_Text_eq {n : Int} (h1 : -9223372036854775808 < n) (h2 : n ≤ 9223372036854775807) : ref01_Text n = some (mkB (decS n)) := by
  unfold ref01_Text decS
  by_cases h : n < 0
  · have hl := rText_L1 19 (-n).toNat [] true (by show _ < 10000000000000000000; omega) (by decide) (by decide) (by decide) (fun _ => .inr trivial)
    have e : (if true = true then -(((-n).toNat : Nat) : Int) else (((-n).toNat : Nat) : Int)) = n := by rw [if_pos rfl]; omega
    rw [e, List.append_nil] at hl
    have hl : loopO (fun (x : (ByteArray × Int)) => ref01_Text_L1 x.1 x.2) (ByteArray.empty, n) = _ := hl
    have hn := natD_len (-n).toNat (by omega)
    have hc : sCat { data := #[45] } (mkB (natD (-n).toNat)) = some (mkB (45 :: natD (-n).toNat)) := sCat_some (x := mkB [45]) (by rw [bs_mk, bs_mk]; simp; omega)
    rw [hl, bind1_some, if_pos (by simpa using h), hc, if_pos h]; rfl
  · have hl := rText_L1 19 n.toNat [] false (by show _ < 10000000000000000000; omega) (by decide) (by decide) (by decide) (fun _ => .inr trivial)
    have e : (if false = true then -((n.toNat : Nat) : Int) else ((n.toNat : Nat) : Int)) = n := by rw [if_neg (by decide)]; omega
    rw [e, List.append_nil] at hl
    have hl : loopO (fun (x : (ByteArray × Int)) => ref01_Text_L1 x.1 x.2) (ByteArray.empty, n) = _ := hl
    rw [hl, bind1_some, if_neg (by simpa using h), if_neg h]
end Go.Proofs.Abs
/- Numbers read: the program and the document. -/
namespace Go.Proofs.Abs
open Go
set_option linter.unusedVariables false
set_option linter.unusedSimpArgs false
def prR (o : Option Int) : Int × Bool := match o with
  | some n => (n, true)
  | none => (0, false)
theorem isD_u8i (c : UInt8) : isD c = !(decide (u8i c < 48) || decide (u8i c > 57)) := by
  unfold isD u8i
  rw [Bool.eq_iff_iff]
  simp; omega
theorem dig_i {c : UInt8} (h : isD c = true) : IntKind.wrap .i64 (IntKind.wrap .u8 (u8i c - 48)) = ((c.toNat - 48 : Nat) : Int) := by
  have : 48 ≤ c.toNat ∧ c.toNat ≤ 57 := of_decide_eq_true h
  have e : u8i c - 48 = ((c.toNat - 48 : Nat) : Int) := by unfold u8i; omega
  rw [e, wrap_u8 ((c.toNat - 48 : Nat) : Int) (by omega) (by omega), wrap_i64 ((c.toNat - 48 : Nat) : Int) (by omega) (by omega)]
/-- a run of digits -/
theorem digs_run (l : Bs) (i n : Nat) : runG (fun (_ : Nat) (n : Nat) (c : UInt8) => if isD c then .inl (n * 10 + (c.toNat - 48)) else .inr (.inr ())) (fun n => (.inl (n : Int) : Int ⊕ Unit)) i n l = if l.all isD then .inl (valF n l : Int) else .inr () := by
  induction l generalizing i n with
  | nil => rfl
  | cons c l ih =>
    rw [runG_cons, List.all_cons]
    cases h : isD c with
    | true => rw [if_pos rfl, Bool.true_and]; exact ih _ _
    | false => rfl
theorem word_L2 (s : ByteArray) (hs : (bs s).length ≤ 10) : loopO (fun (x : (Int × Int)) => word_Parse_L2 s x.1 x.2) (0, 0) = some (if (bs s).all isD then .inl (valS (bs s) : Int) else .inr ()) := by
  have h := loop_all (xs := bs s) (f := fun (x : (Int × Int)) => word_Parse_L2 s x.1 x.2) (fun (n : Nat) i => ((n : Int), (i : Int))) (fun (_ : Nat) (n : Nat) (c : UInt8) => if isD c then .inl (n * 10 + (c.toNat - 48)) else .inr (.inr ())) (fun n => .inl (n : Int)) (fun i n => n < 10 ^ i) 0 (by decide)
    (fun i c n hc hP => by
      have hl := len_of hc
      have hp : 10 ^ i ≤ 10 ^ 10 := Nat.pow_le_pow_right (by decide) (by omega)
      unfold word_Parse_L2
      rw [size_bs, i_lt hc, if_pos rfl, sAt_some hc, bind1_some, wr64 i (by omega)]
      cases hd : isD c with
      | true =>
        have hh := hd
        rw [isD_u8i] at hh
        simp only [Bool.not_eq_true', Bool.or_eq_false_iff] at hh
        rw [if_neg (by rw [hh.1]; decide), bind1_some, bind1_some, if_neg (by rw [hh.2]; decide), bind1_some, dig_i hd]
        have : 48 ≤ c.toNat ∧ c.toNat ≤ 57 := of_decide_eq_true hd
        rw [wrap_i64 ((n : Int) * 10) (by omega) (by omega), wrap_i64 _ (by omega) (by omega)]
        simp
      | false =>
        have hh := hd
        rw [isD_u8i] at hh
        simp only [Bool.not_eq_false'] at hh
        cases h1 : decide (u8i c < 48) with
        | true => rfl
        | false =>
          rw [h1, Bool.false_or] at hh
          rw [if_neg (by decide), bind1_some, bind1_some, hh]; rfl)
    (fun i c n n' hc hP hg => by
      cases hd : isD c with
      | true =>
        rw [hd] at hg; cases hg
        have : 48 ≤ c.toNat ∧ c.toNat ≤ 57 := of_decide_eq_true hd
        show n * 10 + (c.toNat - 48) < 10 ^ (i + 1)
        rw [Nat.pow_succ]; omega
      | false => rw [hd] at hg; cases hg)
    (fun n _ => by unfold word_Parse_L2; rw [size_bs, i_ge, if_neg (by decide)])
  rw [digs_run] at h
  exact h
theorem canon_iff (d : Bs) : canon d = true ↔ d ≠ [] ∧ d.all isD = true ∧ (d.length ≤ 1 ∨ d.head? ≠ some 48) := by
  unfold canon
  simp only [Bool.and_eq_true, Bool.or_eq_true, decide_eq_true_eq, Bool.not_eq_true', beq_eq_false_iff_ne]
  constructor
  · rintro ⟨h1, h2, h3⟩
    exact ⟨fun e => (by subst e; cases h1), h2, h3⟩
  · rintro ⟨h1, h2, h3⟩
    exact ⟨(by cases d; exact absurd rfl h1; rfl), h2, h3⟩
theorem word_j1 (w : Bool) (s : ByteArray) : word_Parse_j1 w s = some (prR (if canon (bs s) ∧ (bs s).length ≤ 10 ∧ (w = true → bs s ≠ [48]) ∧ valS (bs s) ≤ (if w then 2147483648 else 2147483647) then some (if w then -(valS (bs s) : Int) else (valS (bs s) : Int)) else none)) := by
  unfold word_Parse_j1
  rw [strEq_nil]
  have e48 : strEq s { data := #[48] } = decide (bs s = [48]) := strEq_mk s [48]
  rw [e48, size_bs]
  by_cases h0 : bs s = []
  · rw [decide_eq_true h0, if_pos rfl, bind2_some, if_pos rfl, if_neg]; rfl
    rw [h0]; rintro ⟨h, _⟩; cases h
  · rw [decide_eq_false h0, if_neg (by decide)]
    by_cases h10 : (bs s).length ≤ 10
    · rw [if_neg (by simp; omega)]
      have tail : ∀ (bad : Bool), (bad = true ↔ ((1 < (bs s).length ∧ (bs s).head? = some 48) ∨ (w = true ∧ bs s = [48]))) →
          (if bad = true then some ((0 : Int), false) else (bind1 (loopO (fun (x : (Int × Int)) => word_Parse_L2 s x.1 x.2) (0, 0)) (sum2 (fun b23 =>
            if w = true then (word_Parse_j3 (IntKind.wrap .i64 (0 - b23))) else (word_Parse_j3 b23)) (fun (_ : Unit) => some (0, false))))) = some (prR (if canon (bs s) ∧ (bs s).length ≤ 10 ∧ (w = true → bs s ≠ [48]) ∧ valS (bs s) ≤ (if w then 2147483648 else 2147483647) then some (if w then -(valS (bs s) : Int) else (valS (bs s) : Int)) else none)) := by
        intro bad hbad
        cases hb : bad with
        | true =>
          rw [if_pos rfl, if_neg]; rfl
          rintro ⟨h1, h2, h3, _⟩
          rcases hbad.1 hb with ⟨g1, g2⟩ | ⟨g1, g2⟩
          · rcases ((canon_iff _).1 h1).2.2 with h | h
            · omega
            · exact h g2
          · exact h3 g1 g2
        | false =>
          have hnb : ¬ ((1 < (bs s).length ∧ (bs s).head? = some 48) ∨ (w = true ∧ bs s = [48])) := fun h => by rw [hbad.2 h] at hb; cases hb
          rw [if_neg (by decide), word_L2 s h10, bind1_some]
          cases hd : (bs s).all isD with
          | false =>
            rw [if_neg (by decide), if_neg]; rfl
            rintro ⟨h1, _⟩
            rw [((canon_iff _).1 h1).2.1] at hd; cases hd
          | true =>
            have hc : canon (bs s) = true := (canon_iff _).2 ⟨h0, hd, by
              by_cases h : (bs s).length ≤ 1
              · exact .inl h
              · exact .inr fun e => hnb (.inl ⟨by omega, e⟩)⟩
            have hv := valS_lt hd
            have hp : 10 ^ (bs s).length ≤ 10 ^ 10 := Nat.pow_le_pow_right (by decide) h10
            rw [if_pos rfl]
            show (if w = true then word_Parse_j3 (IntKind.wrap .i64 (0 - (valS (bs s) : Int))) else word_Parse_j3 (valS (bs s) : Int)) = _
            unfold word_Parse_j3
            cases w with
            | true =>
              rw [if_pos rfl, wrap_i64 _ (by omega) (by omega)]
              by_cases hr : valS (bs s) ≤ 2147483648
              · rw [if_neg (by simp; omega), if_pos ⟨hc, h10, fun _ e => hnb (.inr ⟨rfl, e⟩), hr⟩, wrap_i32 _ (by omega) (by omega)]
                show some ((0 : Int) - _, true) = some (-_, true)
                rw [Int.zero_sub]
              · rw [if_pos (by simp; omega), if_neg (fun h => hr h.2.2.2)]; rfl
            | false =>
              rw [if_neg (by decide)]
              by_cases hr : valS (bs s) ≤ 2147483647
              · rw [if_neg (by simp; omega), if_pos ⟨hc, h10, fun h => (by cases h), hr⟩, wrap_i32 _ (by omega) (by omega)]; rfl
              · rw [if_pos (by simp; omega), if_neg (fun h => hr h.2.2.2)]; rfl
      by_cases h1 : 1 < (bs s).length
      · obtain ⟨c, hc⟩ : ∃ c, (bs s)[0]? = some c := ⟨_, List.getElem?_eq_getElem (by omega)⟩
        have hh : (bs s).head? = some c := by rw [List.head?_eq_getElem?]; exact hc
        have hs0 : sAt s 0 = some (u8i c) := sAt_some hc
        have hn48 : bs s ≠ [48] := fun e => by rw [e] at h1; simp at h1
        rw [if_pos (by simp; omega), hs0, bind1_some]
        by_cases e : c = 48
        · have := tail true (by simp; exact .inl ⟨h1, by rw [hh, e]⟩)
          rw [e, if_pos (by rfl), bind2_some]
          exact this
        · have := tail false (by simp; exact ⟨fun _ => by rw [hh]; simpa using e, fun _ => hn48⟩)
          rw [if_neg (by rw [beq_iff_eq]; exact fun h => e (u8i_inj h))]
          cases w with
          | true => rw [if_pos rfl, bind2_some, decide_eq_false hn48]; exact this
          | false => rw [if_neg (by decide), bind2_some]; exact this
      · rw [if_neg (by simp; omega)]
        cases w with
        | true =>
          rw [if_pos rfl, bind2_some]
          exact tail (decide (bs s = [48])) (by simp; exact fun h => absurd h h1)
        | false =>
          rw [if_neg (by decide), bind2_some]
          exact tail false (by simp; exact fun h => absurd h h1)
    · rw [if_pos (by simp; omega), bind2_some, if_pos rfl, if_neg (fun h => h10 h.2.1)]; rfl
theorem word_Parse_eq (s : ByteArray) (hs : s.size < 4294967281) : word_Parse s = some (prR (parseS (bs s))) := by
  unfold word_Parse parseS
  rw [size_bs] at hs ⊢
  cases h : bs s with
  | nil =>
    rw [if_neg (by simp), bind1_some, if_neg (by decide), word_j1, h]
    rfl
  | cons c r =>
    have hs0 : sAt s 0 = some (u8i c) := sAt_some (i := 0) (by rw [h]; rfl)
    rw [if_pos (by simp), hs0, bind1_some, bind1_some]
    by_cases e : c = 45
    · subst e
      have hc : sCut s 1 (((45 :: r : Bs).length : Nat) : Int) = some (mkB r) := by
        have := sCut_all s (lo := 1) (by rw [h]; simp)
        rw [size_bs, h] at this
        exact this
      rw [if_pos (by rfl), hc, bind1_some, word_j1, bs_mk, if_pos (show (45 :: r : Bs).head? = some 45 from rfl), List.tail_cons]
      have e1 : (u8i 45 == 45) = true := rfl
      rw [e1]
      simp only [if_true, true_imp_iff]
    · have e1 : (u8i c == 45) = false := by rw [beq_eq_false_iff_ne]; exact fun h => e (u8i_inj h)
      have hne : ¬ (c :: r : Bs).head? = some 45 := by simpa using e
      rw [e1, if_neg (by decide), word_j1, h, if_neg hne]
      simp only [Bool.false_eq_true, if_false, false_imp_iff, true_and]
end Go.Proofs.Abs
/- Numbers read by the document; words of eight digits; registers. -/
namespace Go.Proofs.Abs
open Go
set_option linter.unusedVariables false
set_option linter.unusedSimpArgs false
/-! words of eight digits -/
def hexD (c : UInt8) : Option Nat := if 48 ≤ c.toNat ∧ c.toNat ≤ 57 then some (c.toNat - 48) else if 97 ≤ c.toNat ∧ c.toNat ≤ 102 then some (c.toNat - 87) else none
def hexG (_ : Nat) (w : Nat) (c : UInt8) : Nat ⊕ (Int ⊕ Unit) := match hexD c with
  | some d => .inl (w * 16 + d)
  | none => .inr (.inr ())
def hexS (l : Bs) : Option Int := if l.length = 8 then (match runG hexG (fun w => .inl (w : Int)) 0 0 l with | .inl w => some w | .inr () => none) else none
theorem hexD_lt {c : UInt8} {d : Nat} (h : hexD c = some d) : d < 16 := by
  unfold hexD at h
  split at h
  · cases h; omega
  · split at h
    · cases h; omega
    · cases h
theorem hexG_P {i w w' : Nat} {c : UInt8} (hP : w < 16 ^ i) (hg : hexG i w c = .inl w') : w' < 16 ^ (i + 1) := by
  unfold hexG at hg
  split at hg
  · rename_i d hd; cases hg
    have := hexD_lt hd
    rw [Nat.pow_succ]; omega
  · cases hg
theorem word_ParseHex_eq (s : ByteArray) : word_ParseHex s = some (prR (hexS (bs s))) := by
  unfold word_ParseHex hexS
  rw [size_bs]
  by_cases h8 : (bs s).length = 8
  · rw [if_neg (by simp; omega), if_pos h8]
    have h := loop_all (xs := bs s) (f := fun (x : (Int × Int)) => word_ParseHex_L1 s x.1 x.2) (fun (n : Nat) i => ((n : Int), (i : Int))) hexG (fun n => .inl (n : Int)) (fun i n => n < 16 ^ i) 0 (by decide)
      (fun i c n hc hP => by
        have hl := len_of hc
        have hp : 16 ^ i ≤ 16 ^ 7 := Nat.pow_le_pow_right (by decide) (by omega)
        have hor : ∀ d : Nat, d < 16 → bitsOf .or .u32 (IntKind.wrap .u32 ((n : Int) * 2 ^ 4)) ((d : Nat) : Int) = ((n * 16 + d : Nat) : Int) := fun d hd => by
          rw [wrap_u32 _ (by omega) (by omega), or_part 4 (n : Int) (d : Int) (by omega) (by omega) (by omega) (by omega)]; omega
        unfold word_ParseHex_L1 word_ParseHex_j2 hexG hexD
        rw [size_bs, i_lt hc, if_pos rfl, sAt_some hc, bind1_some, wr64 i (by omega)]
        by_cases h1 : 48 ≤ c.toNat ∧ c.toNat ≤ 57
        · have e : u8i c - 48 = ((c.toNat - 48 : Nat) : Int) := by unfold u8i; omega
          rw [if_pos (by unfold u8i; simp; omega), if_pos h1, e, wrap_u8 ((c.toNat - 48 : Nat) : Int) (by omega) (by omega), wrap_u32 ((c.toNat - 48 : Nat) : Int) (by omega) (by omega), hor _ (by omega)]
        · rw [if_neg (by unfold u8i; simp; omega), if_neg h1]
          by_cases h2 : 97 ≤ c.toNat ∧ c.toNat ≤ 102
          · have e : u8i c - 97 = ((c.toNat - 97 : Nat) : Int) := by unfold u8i; omega
            have e2 : ((c.toNat - 97 : Nat) : Int) + 10 = ((c.toNat - 87 : Nat) : Int) := by omega
            rw [if_pos (by unfold u8i; simp; omega), if_pos h2, e, wrap_u8 ((c.toNat - 97 : Nat) : Int) (by omega) (by omega), e2, wrap_u8 ((c.toNat - 87 : Nat) : Int) (by omega) (by omega), wrap_u32 ((c.toNat - 87 : Nat) : Int) (by omega) (by omega), hor _ (by omega)]
          · rw [if_neg (by unfold u8i; simp; omega), if_neg h2])
      (fun i c n n' hc hP hg => hexG_P hP hg)
      (fun n _ => by unfold word_ParseHex_L1; rw [size_bs, i_ge, if_neg (by decide)])
    have h : loopO (fun (x : (Int × Int)) => word_ParseHex_L1 s x.1 x.2) (0, 0) = _ := h
    rw [h, bind1_some]
    cases runG hexG (fun w => .inl (w : Int)) 0 0 (bs s) with
    | inl w => rfl
    | inr u => rfl
  · rw [if_pos (by simp; omega), if_neg h8]; rfl
def hexL : Bs := [48, 49, 50, 51, 52, 53, 54, 55, 56, 57, 97, 98, 99, 100, 101, 102]
def lookG (c : UInt8) (i : Nat) (d : Int) (x : UInt8) : Int ⊕ Int := if x = c then .inl ((i : Nat) : Int) else .inl d
end Go.Proofs.Abs
/- Which instructions may be; their words. -/
namespace Go.Proofs.Abs
open Go
set_option linter.unusedVariables false
set_option linter.unusedSimpArgs false
/-- the shape of an operation -/
def shS (op : Int) : Int := ([-1, 0, 1, 2, 4, 3, 5, 5, 5, 5, 5, 5, 5, 5, 5, 5, 5, 5, 3, 3, 1, 1, 7, 7, 6, 6, 4, 6, 8, 6, 2, 6, 6, 2, 4] : List Int).getD op.toNat (-1)
theorem shape_all : ((List.range 35).all fun n => decide (instr_Shape (n : Int) = some (shS (n : Int))) && decide (ref02_Shape (n : Int) = some (shS (n : Int)))) = true := by kernel_rfl
theorem shS_all : ((List.range 35).all fun n => decide (n = 0 ∨ 0 ≤ shS (n : Int) ∧ shS (n : Int) ≤ 8)) = true := by kernel_rfl
theorem shape_eq {op : Int} (h0 : 0 ≤ op) (h1 : op ≤ 34) : instr_Shape op = some (shS op) ∧ ref02_Shape op = some (shS op) := by
  have := List.all_eq_true.1 shape_all op.toNat (List.mem_range.2 (by omega))
  rw [Int.toNat_of_nonneg h0, Bool.and_eq_true] at this
  exact ⟨of_decide_eq_true this.1, of_decide_eq_true this.2⟩
theorem shS_r {op : Int} (h0 : 1 ≤ op) (h1 : op ≤ 34) : 0 ≤ shS op ∧ shS op ≤ 8 := by
  have := of_decide_eq_true (List.all_eq_true.1 shS_all op.toNat (List.mem_range.2 (by omega)))
  rw [Int.toNat_of_nonneg (by omega)] at this
  rcases this with h | h
  · omega
  · exact h
def imP (sh n : Int) : Prop := (sh = 1 ∨ sh = 3) ∧ -32768 ≤ n ∧ n < 32768 ∨ (sh = 2 ∨ sh = 4 ∨ sh = 8) ∧ 0 ≤ n ∧ n < 65536 ∨ sh = 7 ∧ -8388608 ≤ n ∧ n < 8388608 ∨ (sh = 0 ∨ sh = 5 ∨ sh = 6) ∧ n = 0
def ckP (sh a b c : Int) : Prop := (sh = 0 ∨ sh = 7 ∨ sh = 8) ∧ a = 0 ∧ b = 0 ∧ c = 0 ∨ (sh = 1 ∨ sh = 2 ∨ sh = 6) ∧ b = 0 ∧ c = 0 ∨ (sh = 3 ∨ sh = 4) ∧ c = 0 ∨ sh = 5
def okI (sh a b c n : Int) : Prop := (0 ≤ a ∧ a < 16) ∧ (0 ≤ b ∧ b < 16) ∧ (0 ≤ c ∧ c < 16) ∧ imP sh n ∧ ckP sh a b c
instance (sh n : Int) : Decidable (imP sh n) := by unfold imP; infer_instance
instance (sh a b c : Int) : Decidable (ckP sh a b c) := by unfold ckP; infer_instance
instance (sh a b c n : Int) : Decidable (okI sh a b c n) := by unfold okI; infer_instance
theorem fitsN {n : Int} (k : Int) (p : Int) (hk : k = 16 ∧ p = 32768 ∨ k = 24 ∧ p = 8388608) : word_Fits n k = some (decide (-p ≤ n ∧ n < p)) := by
  rcases hk with ⟨rfl, rfl⟩ | ⟨rfl, rfl⟩
  all_goals
    unfold word_Fits
    rw [if_neg (by decide)]
  · have s1 : shlI .i64 (-1) (IntKind.wrap .i64 ((if (40 : Int) < 16 then (40 : Int) else 16) - 1)) = some (-32768) := by kernel_rfl
    have s2 : shlI .i64 1 (IntKind.wrap .i64 ((if (40 : Int) < 16 then (40 : Int) else 16) - 1)) = some 32768 := by kernel_rfl
    rw [s1, bind1_some, s2]
    by_cases c : n ≥ -32768
    · rw [if_pos (by simpa using c), bind1_some, bind1_some]
      by_cases d : n < 32768
      · rw [decide_eq_true d, decide_eq_true ⟨c, d⟩]
      · rw [decide_eq_false d, decide_eq_false (fun h => d h.2)]
    · rw [if_neg (by simpa using c), bind1_some, decide_eq_false (fun h => c h.1)]
  · have s1 : shlI .i64 (-1) (IntKind.wrap .i64 ((if (40 : Int) < 24 then (40 : Int) else 24) - 1)) = some (-8388608) := by kernel_rfl
    have s2 : shlI .i64 1 (IntKind.wrap .i64 ((if (40 : Int) < 24 then (40 : Int) else 24) - 1)) = some 8388608 := by kernel_rfl
    rw [s1, bind1_some, s2]
    by_cases c : n ≥ -8388608
    · rw [if_pos (by simpa using c), bind1_some, bind1_some]
      by_cases d : n < 8388608
      · rw [decide_eq_true d, decide_eq_true ⟨c, d⟩]
      · rw [decide_eq_false d, decide_eq_false (fun h => d h.2)]
    · rw [if_neg (by simpa using c), bind1_some, decide_eq_false (fun h => c h.1)]
theorem within16 {n : Int} : word_Within n 16 = some (decide (0 ≤ n ∧ n < 65536)) := by
  unfold word_Within
  have s2 : shlI .i64 1 (if (40 : Int) < 16 then (40 : Int) else 16) = some 65536 := by kernel_rfl
  rw [if_pos (by decide)]
  by_cases c : n ≥ 0
  · rw [if_pos (by simpa using c), s2, bind1_some, bind1_some]
    by_cases d : n < 65536
    · rw [decide_eq_true d, decide_eq_true ⟨c, d⟩]
    · rw [decide_eq_false d, decide_eq_false (fun h => d h.2)]
  · rw [if_neg (by simpa using c), bind1_some, decide_eq_false (fun h => c h.1)]
theorem sh9 {sh : Int} (h0 : 0 ≤ sh) (h1 : sh ≤ 8) : sh = 0 ∨ sh = 1 ∨ sh = 2 ∨ sh = 3 ∨ sh = 4 ∨ sh = 5 ∨ sh = 6 ∨ sh = 7 ∨ sh = 8 := by omega
theorem imm_eq {op a b c n sh : Int} (h0 : 0 ≤ sh) (h1 : sh ≤ 8) : instr_imm ⟨op, a, b, c, n⟩ sh = some (decide (imP sh n)) := by
  unfold instr_imm instr_imm_j1 instr_imm_j2 imP
  have f16 := fitsN (n := n) 16 32768 (.inl ⟨rfl, rfl⟩)
  have f24 := fitsN (n := n) 24 8388608 (.inr ⟨rfl, rfl⟩)
  rcases sh9 h0 h1 with rfl | rfl | rfl | rfl | rfl | rfl | rfl | rfl | rfl <;> simp [f16, f24, within16, bind1_some] <;> rw [Bool.eq_iff_iff] <;> simp
theorem reg_eq (a : Int) : instr_reg a = some (decide (0 ≤ a ∧ a < 16)) := by
  unfold instr_reg
  congr 1
  rw [Bool.eq_iff_iff]; simp
theorem instr_Check_eq {op a b c n sh : Int} (hs : instr_Shape op = some sh) (h0 : 0 ≤ sh) (h1 : sh ≤ 8) : instr_Check ⟨op, a, b, c, n⟩ = some (if okI sh a b c n then 0 else 20) := by
  unfold instr_Check
  dsimp only
  rw [hs, bind1_some, if_neg (by simp; omega), reg_eq, reg_eq, reg_eq, imm_eq h0 h1, bind1_some]
  by_cases ha : 0 ≤ a ∧ a < 16
  · rw [decide_eq_true ha, if_neg (by decide), bind1_some]
    by_cases hb : 0 ≤ b ∧ b < 16
    · rw [decide_eq_true hb, if_neg (by decide), bind1_some]
      by_cases hc : 0 ≤ c ∧ c < 16
      · rw [decide_eq_true hc, if_neg (by decide), bind1_some]
        by_cases hn : imP sh n
        · rw [decide_eq_true hn, bind1_some, if_neg (by decide)]
          have e : okI sh a b c n ↔ ckP sh a b c := ⟨fun h => h.2.2.2.2, fun h => ⟨ha, hb, hc, hn, h⟩⟩
          have e2 : (if okI sh a b c n then (0 : Int) else 20) = if ckP sh a b c then 0 else 20 := by
            by_cases h : ckP sh a b c
            · rw [if_pos h, if_pos (e.2 h)]
            · rw [if_neg h, if_neg (fun h2 => h (e.1 h2))]
          rw [e2]
          unfold instr_Check_j1 instr_Check_j3 instr_Check_j2 ckP
          rcases sh9 h0 h1 with rfl | rfl | rfl | rfl | rfl | rfl | rfl | rfl | rfl <;> simp <;> grind
        · rw [decide_eq_false hn, bind1_some, if_pos (by decide), if_neg (fun h => hn h.2.2.2.1)]
      · rw [decide_eq_false hc, if_pos (by decide), bind1_some, if_pos rfl, if_neg (fun h => hc h.2.2.1)]
    · rw [decide_eq_false hb, if_pos (by decide), bind1_some, if_pos rfl, if_neg (fun h => hb h.2.1)]
  · rw [decide_eq_false ha, if_pos (by decide), bind1_some, if_pos rfl, if_neg (fun h => ha h.1)]
theorem ref02_Check_eq {op a b c n sh : Int} (hs : ref02_Shape op = some sh) (h0 : 0 ≤ sh) (h1 : sh ≤ 8) : ref02_Check ⟨op, a, b, c, n⟩ = some (if okI sh a b c n then 0 else 20) := by
  unfold ref02_Check
  dsimp only
  rw [hs, bind1_some, if_neg (by simp; omega)]
  unfold ref02_has ref02_Check_j1 ref02_Check_j3 ref02_Check_j2 okI imP ckP
  rcases sh9 h0 h1 with rfl | rfl | rfl | rfl | rfl | rfl | rfl | rfl | rfl <;> simp [bind3_some] <;> grind
def woP (sh op a b c n : Int) : Int := if sh = 7 then op * 16777216 + n % 16777216 else op * 16777216 + a * 1048576 + b * 65536 + n % 65536 + c
theorem or_far {op n : Int} (h0 : 0 ≤ op) (h1 : op < 128) : bitsOf .or .u32 (IntKind.wrap .u32 (IntKind.wrap .u32 op * 2 ^ 24)) (bitsOf .and .u32 (IntKind.wrap .u32 n) 16777215) = op * 16777216 + n % 16777216 := by
  rw [wrap_u32 op h0 (by omega), wrap_u32 (op * 2 ^ 24) (by omega) (by omega), and_24 _ (by rw [wrap_mod]; omega) (by rw [wrap_mod]; omega), wrap_mod, or_part 24 op _ h0 (by omega) (by omega) (by omega)]
  omega
theorem cn0 {sh a b c n : Int} (h : okI sh a b c n) : n = 0 ∨ c = 0 := by
  obtain ⟨_, _, _, h1, h2⟩ := h
  unfold imP at h1; unfold ckP at h2
  omega
theorem penc {op a b c n sh : Int} (hs : instr_Shape op = some sh) (s0 : 0 ≤ sh) (s1 : sh ≤ 8) (h0 : 0 ≤ op) (h1 : op < 128) (h : okI sh a b c n) : instr_Encode ⟨op, a, b, c, n⟩ = some (woP sh op a b c n, 0) := by
  unfold instr_Encode
  rw [instr_Check_eq hs s0 s1, bind1_some, if_pos h, if_neg (by decide), hs, bind1_some]
  unfold woP
  by_cases s7 : sh = 7
  · rw [if_pos (by simpa using s7), if_pos s7, or_far h0 h1]
  · rw [if_neg (by simpa using s7), if_neg s7, word_of op a b n c h0 h1 h.1.1 h.1.2 h.2.1.1 h.2.1.2 h.2.2.1.1 h.2.2.1.2 (cn0 h)]
theorem renc {op a b c n sh : Int} (hs : ref02_Shape op = some sh) (s0 : 0 ≤ sh) (s1 : sh ≤ 8) (h0 : 0 ≤ op) (h1 : op < 128) (h : okI sh a b c n) : ref02_Encode ⟨op, a, b, c, n⟩ = some (woP sh op a b c n, 0) := by
  have hi := h.2.2.2.1
  have ⟨⟨a0, a1⟩, ⟨b0, b1⟩, ⟨c0, c1⟩, _⟩ := h
  have nb : -8388608 ≤ n ∧ n < 8388608 := by unfold imP at hi; omega
  unfold ref02_Encode
  rw [ref02_Check_eq hs s0 s1, bind1_some, if_pos h, if_neg (by decide), hs, bind1_some]
  unfold woP
  by_cases s7 : sh = 7
  · rw [if_pos (by simpa using s7), if_pos s7, wrap_i64 (op * 16777216) (by omega) (by omega), wrap_i64 (n + 16777216) (by omega) (by omega), tmod_pos (by omega), wrap_i64 _ (by omega) (by omega), wrap_u32 _ (by omega) (by omega)]
    congr 2; omega
  · have nb : -32768 ≤ n ∧ n < 65536 := by unfold imP at hi; omega
    have m : Int.tmod (IntKind.wrap .i64 (n + 65536)) 65536 = n % 65536 := by rw [wrap_i64 _ (by omega) (by omega), tmod_pos (by omega)]; omega
    rw [if_neg (by simpa using s7), if_neg s7]
    simp only [m]
    rw [wrap_i64 (op * 16777216) (by omega) (by omega), wrap_i64 (a * 1048576) (by omega) (by omega), wrap_i64 (b * 65536) (by omega) (by omega), wrap_i64 (op * 16777216 + a * 1048576) (by omega) (by omega), wrap_i64 (op * 16777216 + a * 1048576 + b * 65536) (by omega) (by omega), wrap_i64 (op * 16777216 + a * 1048576 + b * 65536 + n % 65536) (by omega) (by omega), wrap_i64 _ (by omega) (by omega), wrap_u32 _ (by omega) (by omega)]
/-! registers -/
def regS (l : Bs) : Option Int := if l.head? = some 114 then parseS l.tail else none
theorem parse_r {l : Bs} {n : Int} (h : parseS l = some n) : -2147483648 ≤ n ∧ n ≤ 2147483647 := (parse_iff.1 h).2
theorem register_eq (s : ByteArray) (hs : s.size < 4294967281) : ∃ v, instr_register s = some (v, match regS (bs s) with | some n => decide (0 ≤ n ∧ n < 16) | none => false) ∧ ∀ n, regS (bs s) = some n → v = n := by
  unfold instr_register regS
  rw [size_bs] at hs ⊢
  cases h : bs s with
  | nil => exact ⟨0, rfl, fun n hn => by cases hn⟩
  | cons c r =>
    have hs0 : sAt s 0 = some (u8i c) := sAt_some (i := 0) (by rw [h]; rfl)
    by_cases hr : r = []
    · subst hr
      rw [if_pos (by simp), bind1_some, if_pos rfl]
      refine ⟨0, ?_, fun n hn => ?_⟩
      · split
        · rename_i q hq
          split at hq
          · exact absurd hq (by rw [show parseS (List.tail [c]) = none from rfl]; simp)
          · cases hq
        · rfl
      · split at hn
        · exact absurd hn (by rw [show parseS (List.tail [c]) = none from rfl]; simp)
        · cases hn
    · have hl : 0 < r.length := List.length_pos_iff.2 hr
      rw [if_neg (by simp; omega), hs0, bind1_some, bind1_some]
      by_cases e : c = 114
      · subst e
        have hc : sCut s 1 (((114 :: r : Bs).length : Nat) : Int) = some (mkB r) := by
          have := sCut_all s (lo := 1) (by rw [h]; simp)
          rw [size_bs, h] at this
          exact this
        rw [if_neg (by decide), hc, bind1_some, word_Parse_eq _ (by rw [size_mk]; rw [h, List.length_cons] at hs; omega), bs_mk, if_pos (show (114 :: r : Bs).head? = some 114 from rfl), List.tail_cons]
        cases hq : parseS r with
        | none => exact ⟨_, rfl, fun n hn => by cases hn⟩
        | some n =>
          have := parse_r hq
          refine ⟨n, ?_, fun m hm => by cases hm; rfl⟩
          show some (IntKind.wrap .i64 n, (true && (decide (n ≥ 0) && decide (n < 16)))) = _
          rw [wrap_i64 _ (by omega) (by omega), Bool.true_and]
          congr 2
          rw [Bool.eq_iff_iff]; simp
      · have e1 : (u8i c != 114) = true := by simp; exact fun h => e (u8i_inj h)
        have hne : ¬ (c :: r : Bs).head? = some 114 := by simpa using e
        rw [e1, if_pos rfl, if_neg hne]
        exact ⟨0, rfl, fun n hn => by cases hn⟩
end Go.Proofs.Abs
/- The instruction of an operation and texts: the program and the document. -/
namespace Go.Proofs.Abs
open Go
set_option linter.unusedVariables false
set_option linter.unusedSimpArgs false
/-- where the texts' numbers go: the places of A, B, C, the number -/
def plS (sh : Int) : List Nat := ([[], [1, 4], [1, 4], [1, 2, 4], [1, 2, 4], [1, 2, 3], [1], [4], [4]] : List (List Nat)).getD sh.toNat []
def fset (x : T_instr_Instr) (k : Nat) (v : Int) : T_instr_Instr := if k = 1 then { x with A_ := v } else if k = 2 then { x with B_ := v } else if k = 3 then { x with C_ := v } else { x with Imm_ := v }
/-- what a text stands for at a place -/
def valP (op : Int) (k : Nat) (f : Bs) : Option Int := if k = 4 ∨ op = 26 ∧ k = 2 then parseS f else regS f
def filP (op : Int) : List Nat → List Bs → T_instr_Instr → Option T_instr_Instr
  | [], [], x => some x
  | k :: ks, f :: fs, x => (valP op k f).bind fun v => filP op ks fs (fset x k v)
  | _, _, _ => none
def okX (x : T_instr_Instr) : Prop := okI (shS x.Op_) x.A_ x.B_ x.C_ x.Imm_
instance (x : T_instr_Instr) : Decidable (okX x) := by unfold okX; infer_instance
def fillS (op : Int) (fs : List Bs) : Option T_instr_Instr := (filP op (plS (shS op)) fs ⟨op, 0, 0, 0, 0⟩).bind fun x => if okX x then some x else none
theorem oI_inj : ∀ (x y : T_instr_Instr), o_instr_Instr x = o_instr_Instr y → x = y := by
  intro x y h
  unfold o_instr_Instr at h
  cases x; cases y
  simp at h; simp [h]
theorem oI_len (x : T_instr_Instr) : (o_instr_Instr x).length = 5 := rfl
theorem gI (x : T_instr_Instr) : get_instr_Instr [o_instr_Instr x] 0 0 = some x := hgT_new (en := o_instr_Instr) (n := 5) oI_inj oI_len [] x
theorem o3_inj : ∀ (x y : Int), o_p3 x = o_p3 y → x = y := by
  intro x y h
  unfold o_p3 at h
  simpa using h
def fget (x : T_instr_Instr) (k : Nat) : Int := if k = 1 then x.A_ else if k = 2 then x.B_ else if k = 3 then x.C_ else x.Imm_
theorem g3 (x : T_instr_Instr) {k : Nat} (h1 : 1 ≤ k) (h4 : k ≤ 4) : get_p3 [o_instr_Instr x] 0 k = some (fget x k) := by
  refine hgetT_of o3_inj ?_
  have : k = 1 ∨ k = 2 ∨ k = 3 ∨ k = 4 := by omega
  rcases this with rfl | rfl | rfl | rfl <;> rfl
theorem s3 (x : T_instr_Instr) (v : Int) {k : Nat} (h1 : 1 ≤ k) (h4 : k ≤ 4) : set_p3 [o_instr_Instr x] 0 k v = [o_instr_Instr (fset x k v)] := by
  have : k = 1 ∨ k = 2 ∨ k = 3 ∨ k = 4 := by omega
  rcases this with rfl | rfl | rfl | rfl <;> rfl
theorem fset_fset (x : T_instr_Instr) (k : Nat) (v w : Int) : fset (fset x k v) k w = fset x k w := by
  unfold fset
  split
  · rfl
  · split
    · rfl
    · split <;> rfl
theorem fset_op (x : T_instr_Instr) (k : Nat) (v : Int) : (fset x k v).Op_ = x.Op_ := by
  unfold fset
  split
  · rfl
  · split
    · rfl
    · split <;> rfl
theorem filP_op (op : Int) : ∀ (ks : List Nat) (fs : List Bs) (x y : T_instr_Instr), filP op ks fs x = some y → y.Op_ = x.Op_
  | [], [], x, y, h => by cases h; rfl
  | k :: ks, f :: fs, x, y, h => by
    unfold filP at h
    cases hv : valP op k f with
    | none => rw [hv] at h; cases h
    | some v => rw [hv] at h; exact (filP_op op ks fs _ y h).trans (fset_op x k v)
  | [], _ :: _, _, _, h => by cases h
  | _ :: _, [], _, _, h => by cases h
/-- an instruction that can't be any more: a register that is too great -/
def badR (x : T_instr_Instr) : Prop := ¬ (0 ≤ x.A_ ∧ x.A_ < 16) ∨ ¬ (0 ≤ x.B_ ∧ x.B_ < 16) ∨ ¬ (0 ≤ x.C_ ∧ x.C_ < 16)
theorem badR_ok {x : T_instr_Instr} (h : badR x) : ¬ okX x := fun o => by
  rcases h with h | h | h
  · exact h o.1
  · exact h o.2.1
  · exact h o.2.2.1
theorem fset_bad {x : T_instr_Instr} {k : Nat} {v : Int} (h : badR x) (hk : (∀ j, j < k → True) ∧ (k = 1 → 0 ≤ x.A_ ∧ x.A_ < 16) ∧ (k = 2 → 0 ≤ x.B_ ∧ x.B_ < 16) ∧ (k = 3 → 0 ≤ x.C_ ∧ x.C_ < 16)) : badR (fset x k v) := by
  unfold fset badR at *
  split
  · rename_i e; have := hk.2.1 e; dsimp only; omega
  · split
    · rename_i e; have := hk.2.2.1 e; dsimp only; omega
    · split
      · rename_i e; have := hk.2.2.2 e; dsimp only; omega
      · exact h
/-- places that still come: their cells are 0 -/
def clean (ks : List Nat) (x : T_instr_Instr) : Prop := ∀ k ∈ ks, fget x k = 0
theorem fget_fset {x : T_instr_Instr} {j k : Nat} {v : Int} (hj : 1 ≤ j ∧ j ≤ 4) (hk : 1 ≤ k ∧ k ≤ 4) (h : j ≠ k) : fget (fset x k v) j = fget x j := by
  have a : j = 1 ∨ j = 2 ∨ j = 3 ∨ j = 4 := by omega
  have b : k = 1 ∨ k = 2 ∨ k = 3 ∨ k = 4 := by omega
  rcases a with rfl | rfl | rfl | rfl <;> rcases b with rfl | rfl | rfl | rfl <;> first | rfl | exact absurd rfl h
theorem filP_bad (op : Int) : ∀ (ks : List Nat) (fs : List Bs) (x : T_instr_Instr), (∀ k ∈ ks, 1 ≤ k ∧ k ≤ 4) → ks.Nodup → clean ks x → badR x → (filP op ks fs x).bind (fun x => if okX x then some x else none) = none
  | [], [], x, _, _, _, h => if_neg (badR_ok h)
  | k :: ks, f :: fs, x, hk, hn, hc, h => by
    unfold filP
    cases hv : valP op k f with
    | none => rfl
    | some v =>
      rw [Option.bind_some]
      have k0 := hc k (List.mem_cons_self ..)
      obtain ⟨n1, n2⟩ := List.nodup_cons.1 hn
      refine filP_bad op ks fs _ (fun j hj => hk j (List.mem_cons_of_mem _ hj)) n2 (fun j hj => ?_) (fset_bad h ⟨fun _ _ => trivial, fun e => ?_, fun e => ?_, fun e => ?_⟩)
      · rw [fget_fset (hk j (List.mem_cons_of_mem _ hj)) (hk k (List.mem_cons_self ..)) (fun e => n1 (e ▸ hj))]; exact hc j (List.mem_cons_of_mem _ hj)
      · subst e; have k0 : x.A_ = 0 := k0; omega
      · subst e; have k0 : x.B_ = 0 := k0; omega
      · subst e; have k0 : x.C_ = 0 := k0; omega
  | [], _ :: _, _, _, _, _, _ => rfl
  | _ :: _, [], _, _, _, _, _ => rfl
theorem peq_at (i o k : Nat) : peq (.at i o) (.at i k) = some (decide (o = k)) := if_pos rfl
theorem fill_L2 (op : Int) (pls : List Nat) (fs : List Bs) (hf : ∀ f ∈ fs, f.length < 4294967281) (hp : ∀ k ∈ pls, 1 ≤ k ∧ k ≤ 4) (hnd : pls.Nodup) (hl4 : pls.length ≤ 4) (hlen : pls.length = fs.length) :
    ∀ (ks : List Nat) (gs : List Bs) (i : Nat) (x : T_instr_Instr), pls.drop i = ks → fs.drop i = gs → i ≤ pls.length → clean ks x →
      ∃ r, loopO (fun (y : (Int × Heap)) => instr_Fill_L2 (pls.map (Ptr.at 0)) (fs.map mkB) 0 op y.1 y.2) ((i : Int), [o_instr_Instr x]) = some r ∧
        ((∃ y, filP op ks gs x = some y ∧ r = .inl [o_instr_Instr y]) ∨ ((filP op ks gs x).bind (fun x => if okX x then some x else none) = none ∧ ∃ h, r = .inr h))
  | [], gs, i, x, hk, hg, hi, hc => by
    have e1 : i = pls.length := by have := congrArg List.length hk; simp at this; omega
    have e2 : gs = [] := by rw [← hg, List.drop_eq_nil_of_le (by omega)]
    subst e2
    refine ⟨_, loopO_out (r := .inl [o_instr_Instr x]) ?_, .inl ⟨x, rfl, rfl⟩⟩
    unfold instr_Fill_L2
    dsimp only
    rw [List.length_map, if_neg (by rw [e1]; simp)]
  | k :: ks, gs, i, x, hk, hg, hi, hc => by
    have hx : pls[i]? = some k := by have := congrArg (·[0]?) hk; simpa using this
    have hil := len_of hx
    cases gs with
    | nil => have := congrArg List.length hg; simp at this; omega
    | cons f gs =>
      have hy : fs[i]? = some f := by have := congrArg (·[0]?) hg; simpa using this
      have hkd : pls.drop (i + 1) = ks := by rw [← List.drop_drop, hk]; rfl
      have hgd : fs.drop (i + 1) = gs := by rw [← List.drop_drop, hg]; rfl
      have kr := hp k (List.mem_of_getElem? hx)
      have hx' : (pls.map (Ptr.at 0))[i]? = some (.at 0 k) := by rw [List.getElem?_map, hx]; rfl
      have hy' : (fs.map mkB)[i]? = some (mkB f) := by rw [List.getElem?_map, hy]; rfl
      have hfl := hf f (List.mem_of_getElem? hy)
      have nd : k ∉ ks ∧ ks.Nodup := by
        have : (k :: ks).Nodup := by rw [← hk]; exact (List.drop_sublist i pls).nodup hnd
        exact List.nodup_cons.1 this
      have hks : ∀ j ∈ ks, 1 ≤ j ∧ j ≤ 4 := fun j hj => hp j (List.mem_of_mem_drop (hkd ▸ hj))
      have hcl : ∀ v, clean ks (fset x k v) := fun v j hj => by
        rw [fget_fset (hks j hj) kr (fun e => nd.1 (e ▸ hj))]; exact hc j (List.mem_cons_of_mem _ hj)
      have step : ∀ q, instr_Fill_L2 (pls.map (Ptr.at 0)) (fs.map mkB) 0 op (i : Int) [o_instr_Instr x] = some q → ∀ r, (q = .inr r ∧ (∃ h, r = .inr h) ∧ (filP op (k :: ks) (f :: gs) x).bind (fun x => if okX x then some x else none) = none) → ∃ r, loopO (fun (y : (Int × Heap)) => instr_Fill_L2 (pls.map (Ptr.at 0)) (fs.map mkB) 0 op y.1 y.2) ((i : Int), [o_instr_Instr x]) = some r ∧
        ((∃ y, filP op (k :: ks) (f :: gs) x = some y ∧ r = .inl [o_instr_Instr y]) ∨ ((filP op (k :: ks) (f :: gs) x).bind (fun x => if okX x then some x else none) = none ∧ ∃ h, r = .inr h)) := by
        rintro q hq r ⟨rfl, h1, h2⟩
        exact ⟨r, loopO_out hq, .inr ⟨h2, h1⟩⟩
      have more : ∀ v, instr_Fill_L2 (pls.map (Ptr.at 0)) (fs.map mkB) 0 op (i : Int) [o_instr_Instr x] = some (.inl (((i + 1 : Nat) : Int), [o_instr_Instr (fset x k v)])) → valP op k f = some v → ∃ r, loopO (fun (y : (Int × Heap)) => instr_Fill_L2 (pls.map (Ptr.at 0)) (fs.map mkB) 0 op y.1 y.2) ((i : Int), [o_instr_Instr x]) = some r ∧
        ((∃ y, filP op (k :: ks) (f :: gs) x = some y ∧ r = .inl [o_instr_Instr y]) ∨ ((filP op (k :: ks) (f :: gs) x).bind (fun x => if okX x then some x else none) = none ∧ ∃ h, r = .inr h)) := by
        intro v hv hval
        obtain ⟨r, r1, r2⟩ := fill_L2 op pls fs hf hp hnd hl4 hlen ks gs (i + 1) (fset x k v) hkd hgd hil (hcl v)
        refine ⟨r, by rw [loopO_go (s' := (((i + 1 : Nat) : Int), [o_instr_Instr (fset x k v)])) hv]; exact r1, ?_⟩
        show (∃ y, (valP op k f).bind (fun v => filP op ks gs (fset x k v)) = some y ∧ _) ∨ (((valP op k f).bind (fun v => filP op ks gs (fset x k v))).bind _ = none ∧ _)
        rw [hval, Option.bind_some]
        exact r2
      have hP := word_Parse_eq (mkB f) (by rw [size_mk]; exact hfl)
      rw [bs_mk] at hP
      obtain ⟨rv, hR, hR2⟩ := register_eq (mkB f) (by rw [size_mk]; exact hfl)
      rw [bs_mk] at hR hR2
      unfold instr_Fill_L2 at step more
      rw [i_lt hx', if_pos rfl, gi_nat hx', bind1_some, gi_nat hy', bind1_some, hP] at step more
      obtain ⟨pv, pb, hpr⟩ : ∃ pv pb, prR (parseS f) = (pv, pb) := ⟨_, _, rfl⟩
      have hpv : -2147483648 ≤ pv ∧ pv ≤ 2147483647 := by
        cases hq : parseS f with
        | none => rw [hq] at hpr; cases hpr; decide
        | some n => rw [hq] at hpr; cases hpr; exact parse_r hq
      rw [hpr, bind2_some, pbnd_at, g3 x kr.1 kr.2, bind1_some, bnd_def, wrap_i64 pv (by omega) (by omega), s3 x pv kr.1 kr.2, gI, bind1_some, peq_at, bind1_some] at step more
      have isR : (bind1 (if (!decide (k = 4)) = true then (if (op == 26) = true then (bind1 (peq (Ptr.at 0 k) (Ptr.at 0 2)) fun b35 => some (!b35)) else (some true)) else (some false)) fun w => some w) = some (!decide (k = 4 ∨ op = 26 ∧ k = 2)) := by
        by_cases k4 : k = 4
        · subst k4; rfl
        · by_cases o : op = 26
          · subst o; rw [peq_at]; simp [k4, bind1_some]
          · simp [k4, o, bind1_some]
      have isR2 : (if (!decide (k = 4)) = true then (if (op == 26) = true then (bind1 (peq (Ptr.at 0 k) (Ptr.at 0 2)) fun b35 => some (!b35)) else (some true)) else (some false)) = some (!decide (k = 4 ∨ op = 26 ∧ k = 2)) := by
        rw [← isR]; cases (if (!decide (k = 4)) = true then (if (op == 26) = true then (bind1 (peq (Ptr.at 0 k) (Ptr.at 0 2)) fun b35 => some (!b35)) else (some true)) else (some false)) <;> rfl
      rw [isR2, bind1_some] at step more
      unfold instr_Fill_j3 at step more
      rw [wr64 i (by omega)] at step more
      by_cases hn : k = 4 ∨ op = 26 ∧ k = 2
      · rw [decide_eq_true hn, if_neg (by decide)] at step more
        have hval : valP op k f = parseS f := if_pos hn
        cases hq : parseS f with
        | none =>
          rw [hq] at hpr; cases hpr
          refine step _ rfl _ ⟨rfl, ⟨_, rfl⟩, ?_⟩
          show ((valP op k f).bind (fun v => filP op ks gs (fset x k v))).bind _ = none
          rw [hval, hq]; rfl
        | some n =>
          rw [hq] at hpr; cases hpr
          exact more _ rfl (by rw [hval, hq])
      · rw [decide_eq_false hn, if_pos (by decide), bind1_some, hR, bind2_some, g3 _ kr.1 kr.2, bind1_some, bnd_def, s3 _ _ kr.1 kr.2, fset_fset] at step more
        have hval : valP op k f = regS f := if_neg hn
        cases hq : regS f with
        | none =>
          rw [hq] at step
          refine step _ rfl _ ⟨rfl, ⟨_, rfl⟩, ?_⟩
          show ((valP op k f).bind (fun v => filP op ks gs (fset x k v))).bind _ = none
          rw [hval, hq]; rfl
        | some n =>
          have e := hR2 n hq
          subst e
          rw [hq] at step more
          by_cases r16 : 0 ≤ rv ∧ rv < 16
          · simp only [decide_eq_true r16] at more
            exact more rv rfl (by rw [hval, hq])
          · simp only [decide_eq_false r16] at step
            refine step _ rfl _ ⟨rfl, ⟨_, rfl⟩, ?_⟩
            show ((valP op k f).bind (fun v => filP op ks gs (fset x k v))).bind _ = none
            rw [hval, hq, Option.bind_some]
            refine filP_bad op ks gs _ hks nd.2 (hcl rv) ?_
            have k4 : k ≠ 4 := fun e => hn (.inl e)
            have : k = 1 ∨ k = 2 ∨ k = 3 := by omega
            rcases this with rfl | rfl | rfl
            · exact .inl r16
            · exact .inr (.inl r16)
            · exact .inr (.inr r16)
end Go.Proofs.Abs
/- The instruction of an operation and texts, by both, is the same. -/
namespace Go.Proofs.Abs
open Go
set_option linter.unusedVariables false
set_option linter.unusedSimpArgs false
theorem filP_len (op : Int) : ∀ (ks : List Nat) (fs : List Bs) (x : T_instr_Instr), ks.length ≠ fs.length → filP op ks fs x = none
  | [], [], x, h => absurd rfl h
  | k :: ks, f :: fs, x, h => by
    unfold filP
    cases valP op k f with
    | none => rfl
    | some v => exact filP_len op ks fs _ (fun e => h (by simp [e]))
  | [], _ :: _, _, _ => rfl
  | _ :: _, [], _, _ => rfl
theorem fill_j1 {op : Int} {pls : List Nat} {fs : List Bs} (ho : 1 ≤ op ∧ op ≤ 34) (hf : ∀ f ∈ fs, f.length < 4294967281) (hp : ∀ k ∈ pls, 1 ≤ k ∧ k ≤ 4) (hnd : pls.Nodup) (hl4 : pls.length ≤ 4) :
    ∃ y, instr_Fill_j1 (fs.map mkB) 0 op [o_instr_Instr ⟨op, 0, 0, 0, 0⟩] (pls.map (Ptr.at 0)) = some (y, ((filP op pls fs ⟨op, 0, 0, 0, 0⟩).bind fun x => if okX x then some x else none).isSome) ∧ ∀ x, ((filP op pls fs ⟨op, 0, 0, 0, 0⟩).bind fun x => if okX x then some x else none) = some x → y = x := by
  unfold instr_Fill_j1
  rw [List.length_map, List.length_map]
  by_cases hlen : pls.length = fs.length
  · rw [if_neg (by simp [hlen])]
    obtain ⟨r, r1, r2⟩ := fill_L2 op pls fs hf hp hnd hl4 hlen pls fs 0 ⟨op, 0, 0, 0, 0⟩ rfl rfl (Nat.zero_le _) (fun k hk => by
      have := hp k hk
      have : k = 1 ∨ k = 2 ∨ k = 3 ∨ k = 4 := by omega
      rcases this with rfl | rfl | rfl | rfl <;> rfl)
    have r1 : loopO (fun (x : (Int × Heap)) => instr_Fill_L2 (pls.map (Ptr.at 0)) (fs.map mkB) 0 op x.1 x.2) (0, [o_instr_Instr ⟨op, 0, 0, 0, 0⟩]) = _ := r1
    rw [r1, bind1_some]
    rcases r2 with ⟨y, h1, rfl⟩ | ⟨h1, h, rfl⟩
    · have hop := filP_op op pls fs _ y h1
      have hop : y.Op_ = op := hop
      obtain ⟨s0, s8⟩ := shS_r (op := y.Op_) (by omega) (by omega)
      have hsh := (shape_eq (op := y.Op_) (by omega) (by omega)).1
      have hc : instr_Check y = some (if okX y then 0 else 20) := instr_Check_eq (op := y.Op_) (a := y.A_) (b := y.B_) (c := y.C_) (n := y.Imm_) hsh s0 s8
      rw [sum2_inl, gI, bind1_some, hc, bind1_some, h1, Option.bind_some]
      refine ⟨y, ?_, fun x hx => ?_⟩
      · by_cases ok : okX y
        · rw [if_pos ok, if_pos ok]; rfl
        · rw [if_neg ok, if_neg ok]; rfl
      · split at hx
        · cases hx; rfl
        · cases hx
    · rw [sum2_inr, h1]
      exact ⟨_, rfl, fun x hx => by cases hx⟩
  · rw [if_pos (by simp; omega), filP_len op pls fs _ hlen]
    exact ⟨_, rfl, fun x hx => by cases hx⟩
theorem plS_ok : ((List.range 9).all fun n => (plS (n : Int)).all (fun k => decide (1 ≤ k ∧ k ≤ 4)) && decide (plS (n : Int)).Nodup && decide ((plS (n : Int)).length ≤ 4)) = true := by kernel_rfl
theorem instr_Fill_eq {op : Int} {fs : List Bs} (ho : 1 ≤ op ∧ op ≤ 34) (hf : ∀ f ∈ fs, f.length < 4294967281) : ∃ y, instr_Fill op (fs.map mkB) = some (y, (fillS op fs).isSome) ∧ ∀ x, fillS op fs = some x → y = x := by
  obtain ⟨s0, s8⟩ := shS_r ho.1 ho.2
  have hp := List.all_eq_true.1 plS_ok (shS op).toNat (List.mem_range.2 (by omega))
  rw [Int.toNat_of_nonneg s0] at hp
  simp only [Bool.and_eq_true, List.all_eq_true, decide_eq_true_eq] at hp
  have key := fill_j1 (op := op) (pls := plS (shS op)) (fs := fs) ho hf hp.1.1 hp.1.2 hp.2
  unfold fillS
  unfold instr_Fill
  have e1 : new_instr_Instr ([] : Heap) (T_instr_Instr.mk 0 0 0 0 0) = [o_instr_Instr ⟨0, 0, 0, 0, 0⟩] := rfl
  have e2 : set_instr_Instr [o_instr_Instr ⟨0, 0, 0, 0, 0⟩] 0 0 ⟨op, 0, 0, 0, 0⟩ = [o_instr_Instr ⟨op, 0, 0, 0, 0⟩] := rfl
  have e0 : ([] : Heap).length = 0 := rfl
  rw [bnd_def, bnd_def, e1, e0, gI, bind1_some, bnd_def, e2, (shape_eq (by omega) ho.2).1, bind1_some]
  unfold instr_Fill_j4 instr_Fill_j5 instr_Fill_j6
  generalize shS op = sh at s0 s8 key
  simp only [gI, bind1_some]
  rcases sh9 s0 s8 with rfl | rfl | rfl | rfl | rfl | rfl | rfl | rfl | rfl <;> exact key
/-! the document -/
def ri (x : T_instr_Instr) : T_ref02_Instr := ⟨x.Op_, x.A_, x.B_, x.C_, x.Imm_⟩
def filV (op : Int) : List Nat → List Bs → Option (List Int)
  | [], [] => some []
  | k :: ks, f :: fs => (valP op k f).bind fun v => (filV op ks fs).map (v :: ·)
  | _, _ => none
def putV : List Nat → List Int → T_instr_Instr → T_instr_Instr
  | k :: ks, v :: vs, x => putV ks vs (fset x k v)
  | _, _, x => x
def hdS (op : Int) (k : Nat) : Bs := if k = 4 ∨ op = 26 ∧ k = 2 then [] else [114]
end Go.Proofs.Abs
/- Rows: their instructions and words, by both. -/
namespace Go.Proofs.Abs
open Go
set_option linter.unusedVariables false
set_option linter.unusedSimpArgs false
def okR (x : T_asm_row) : Prop := 0 ≤ x.op_ ∧ x.op_ ≤ 34 ∧ x.fields_.length ≤ 4294967296 ∧ ∀ f ∈ x.fields_, f.size < 4294967280
theorem okR_fs {x : T_asm_row} (h : okR x) : okFs x.fields_ := ⟨by have := h.2.2.1; omega, fun f hf => by have := h.2.2.2 f hf; omega⟩
def subL (b : Bool) (fs : List Bs) (last : Bs) : List Bs := if b then fs.set (fs.length - 1) last else fs
def nmd (x : T_asm_row) : Bool := !(namedS x.op_ x.fields_).isEmpty
/-- a row's instruction, with a text in its label's place -/
def rowW (x : T_asm_row) (last : Bs) : Option T_instr_Instr := fillS x.op_ (subL (nmd x) (x.fields_.map bs) last)
theorem map_mk_bs (l : List ByteArray) : (l.map bs).map mkB = l := by rw [List.map_map]; exact List.map_id _
theorem nmd_ne {x : T_asm_row} (h : nmd x = true) : x.fields_ ≠ [] := fun e => by
  unfold nmd namedS at h
  rw [e] at h; cases h
theorem strEq_nmd (x : T_asm_row) : (!strEq (mkB (namedS x.op_ x.fields_)) ByteArray.empty) = nmd x := by
  rw [strEq_nil, bs_mk]
  unfold nmd
  cases namedS x.op_ x.fields_ <;> simp
theorem sub_lt {x : T_asm_row} {last : Bs} (h : okR x) (hl : last.length < 4294967281) : ∀ f ∈ subL (nmd x) (x.fields_.map bs) last, f.length < 4294967281 := by
  intro f hf
  unfold subL at hf
  have old : ∀ f ∈ x.fields_.map bs, f.length < 4294967281 := fun f hf => by
    obtain ⟨g, hg, rfl⟩ := List.mem_map.1 hf
    have := h.2.2.2 g hg
    rw [size_bs] at this; omega
  split at hf
  · rcases List.mem_or_eq_of_mem_set hf with h1 | rfl
    · exact old f h1
    · exact hl
  · exact old f hf
theorem asm_with_eq (x : T_asm_row) (last : Bs) (h : okR x) (h1 : 1 ≤ x.op_) (hl : last.length < 4294967281) : ∃ y, asm_row_with x (mkB last) = some (y, (rowW x last).isSome) ∧ ∀ z, rowW x last = some z → y = z := by
  obtain ⟨y, e1, e2⟩ := instr_Fill_eq (op := x.op_) (fs := subL (nmd x) (x.fields_.map bs) last) ⟨h1, h.2.1⟩ (sub_lt h hl)
  refine ⟨y, ?_, e2⟩
  have hlen := h.2.2.1
  unfold asm_row_with
  rw [app_some (by simp; omega), bind1_some, List.nil_append, named_eq x (okR_fs h), bind1_some, strEq_nmd]
  unfold asm_row_with_j1
  unfold rowW at *
  unfold subL at e1 e2 ⊢
  cases hn : nmd x with
  | true =>
    have hpos : 0 < x.fields_.length := List.length_pos_iff.2 (nmd_ne hn)
    have hix : IntKind.wrap .i64 ((x.fields_.length : Int) - 1) = ((x.fields_.length - 1 : Nat) : Int) := by rw [wrap_i64 _ (by omega) (by omega)]; omega
    obtain ⟨q, hq⟩ : ∃ q, x.fields_[x.fields_.length - 1]? = some q := ⟨_, List.getElem?_eq_getElem (by omega)⟩
    rw [hn, if_pos rfl, List.map_set, map_mk_bs, List.length_map] at e1
    rw [if_pos rfl, hix, gi_nat hq, bind1_some, si_some (by omega) (by omega), Int.toNat_natCast, bind1_some, e1, bind2_some, if_pos rfl, List.length_map]
  | false =>
    rw [hn, if_neg (by decide), map_mk_bs] at e1
    rw [if_neg (by decide), e1, bind2_some, if_neg (by decide)]
/-- a row's word, or what is wrong with it -/
def placeS (ls : List T_asm_Label) (k : Nat) (x : T_asm_row) : Int × Int :=
  if x.op_ = 0 then (x.word_, 0) else
    if nmd x = true ∧ atS (namedS x.op_ x.fields_) ls < 0 then (0, 50) else
      match rowW x (if nmd x then decS (atS (namedS x.op_ x.fields_) ls - k - 1) else [48]) with
      | some y => (woP (shS y.Op_) y.Op_ y.A_ y.B_ y.C_ y.Imm_, 0)
      | none => (0, 52)
def okLs (ls : List T_asm_Label) : Prop := ls.length < 4294967296 ∧ ∀ l ∈ ls, 0 ≤ l.At_ ∧ l.At_ ≤ 4294967296
theorem atS_r {ls : List T_asm_Label} (h : ∀ l ∈ ls, 0 ≤ l.At_ ∧ l.At_ ≤ 4294967296) (n : Bs) : -1 ≤ atS n ls ∧ atS n ls ≤ 4294967296 := by
  unfold atS
  have : ∀ (l : List T_asm_Label) (i : Nat), (∀ q ∈ l, 0 ≤ q.At_ ∧ q.At_ ≤ 4294967296) → -1 ≤ findG (fun _ l => if bs l.Name_ = n then some l.At_ else none) (-1) i l ∧ findG (fun _ l => if bs l.Name_ = n then some l.At_ else none) (-1) i l ≤ 4294967296 := by
    intro l
    induction l with
    | nil => intro i _; exact ⟨Int.le_refl _, by show (-1 : Int) ≤ _; decide⟩
    | cons q l ih =>
      intro i hq
      unfold findG
      have := hq q (List.mem_cons_self ..)
      by_cases e : bs q.Name_ = n
      · rw [if_pos e]; dsimp only; omega
      · rw [if_neg e]; exact ih (i + 1) fun z hz => hq z (List.mem_cons_of_mem _ hz)
  exact this ls 0 h
theorem dec_len {n : Int} (h1 : -18446744073709551616 < n) (h2 : n < 18446744073709551616) : (decS n).length ≤ 21 := by
  unfold decS
  split
  · have := natD_len (-n).toNat (by omega); simp; omega
  · have := natD_len n.toNat (by omega); omega
theorem rowW_op {x : T_asm_row} {last : Bs} {y : T_instr_Instr} (h : rowW x last = some y) : y.Op_ = x.op_ ∧ okX y := by
  unfold rowW fillS at h
  cases hq : filP x.op_ (plS (shS x.op_)) (subL (nmd x) (x.fields_.map bs) last) ⟨x.op_, 0, 0, 0, 0⟩ with
  | none => rw [hq] at h; cases h
  | some z =>
    rw [hq, Option.bind_some] at h
    split at h
    · rename_i ok; cases h
      exact ⟨filP_op _ _ _ _ _ hq, ok⟩
    · cases h
theorem asm_place_j1 {x : T_asm_row} {last : Bs} (h : okR x) (h1 : 1 ≤ x.op_) (hl : last.length < 4294967281) : asm_reader_place_j1 x (mkB last) = some (match rowW x last with | some y => (woP (shS y.Op_) y.Op_ y.A_ y.B_ y.C_ y.Imm_, 0) | none => (0, 52)) := by
  obtain ⟨y, e1, e2⟩ := asm_with_eq x last h h1 hl
  unfold asm_reader_place_j1
  rw [e1, bind2_some]
  cases hq : rowW x last with
  | none => rfl
  | some z =>
    have := e2 z hq
    subst this
    obtain ⟨o1, o2⟩ := rowW_op hq
    have h3 := h.2.1
    obtain ⟨s0, s8⟩ := shS_r (op := y.Op_) (by omega) (by omega)
    have := penc (op := y.Op_) (a := y.A_) (b := y.B_) (c := y.C_) (n := y.Imm_) (shape_eq (op := y.Op_) (by omega) (by omega)).1 s0 s8 (by omega) (by omega) o2
    have hy : instr_Encode y = _ := this
    show (if (!true) = true then _ else bind2 (instr_Encode y) _) = _
    rw [if_neg (by decide), hy]; rfl
theorem asm_place_eq {H : Heap} {i : Nat} {u : T_asm_Unit} {rows : List T_asm_row} {k : Nat} {x : T_asm_row} (hH : get_asm_reader H i 0 = some ⟨u, rows⟩) (hx : rows[k]? = some x) (h : okR x) (hls : okLs u.Labels_) (hk : k < 4294967296) :
    asm_reader_place H (.at i 0) (k : Int) = some (placeS u.Labels_ k x) := by
  unfold asm_reader_place placeS
  show bind1 (get_asm_reader H i 0) _ = _
  rw [hH, bind1_some]
  dsimp only
  rw [gi_nat hx, bind1_some]
  by_cases h0 : x.op_ = 0
  · rw [if_pos (by simp [h0]), if_pos h0]
  · have h1 : 1 ≤ x.op_ := by have := h.1; omega
    rw [if_neg (by simpa using h0), if_neg h0, named_eq x (okR_fs h), bind1_some, strEq_nmd]
    obtain ⟨a1, a2⟩ := atS_r hls.2 (namedS x.op_ x.fields_)
    cases hn : nmd x with
    | true =>
      rw [if_pos rfl, asm_At_eq u _ (by have := hls.1; omega), bind1_some, bs_mk]
      by_cases ha : atS (namedS x.op_ x.fields_) u.Labels_ < 0
      · rw [if_pos (by simpa using ha), if_pos ⟨rfl, ha⟩]
      · rw [if_neg (by simpa using ha), if_neg (fun h => ha h.2), wrap_i64 (_ - (k : Int)) (by omega) (by omega), wrap_i64 _ (by omega) (by omega), word_Text_eq (by omega) (by omega), bind1_some]
        have := dec_len (n := atS (namedS x.op_ x.fields_) u.Labels_ - (k : Int) - 1) (by omega) (by omega)
        exact asm_place_j1 h h1 (by omega)
    | false =>
      rw [if_neg (by decide), if_neg (fun h => by cases h.1)]
      exact asm_place_j1 (last := [48]) h h1 (by decide)
end Go.Proofs.Abs
/- Lines, and the whole text, by both. -/
namespace Go.Proofs.Abs
open Go
set_option linter.unusedVariables false
set_option linter.unusedSimpArgs false
theorem opS_r (n : Bs) : 0 ≤ opS n ∧ opS n ≤ 34 := by
  unfold opS
  have : ∀ (l : List Bs) (i : Nat), 0 ≤ findG (fun i x => if x = n then some ((i + 1 : Nat) : Int) else none) 0 i l ∧ findG (fun i x => if x = n then some ((i + 1 : Nat) : Int) else none) 0 i l ≤ ((i + l.length : Nat) : Int) := by
    intro l
    induction l with
    | nil => intro i; unfold findG; omega
    | cons x l ih =>
      intro i
      unfold findG
      rw [List.length_cons]
      by_cases e : x = n
      · rw [if_pos e]; dsimp only; omega
      · rw [if_neg e]; have := ih (i + 1); dsimp only; omega
  exact this opNames 0
def isW (h : Bs) (fs : List Bs) : Bool := decide (h = [87, 79, 82, 68]) && decide (fs.length = 1)
/-- a line that is an instruction, or a word -/
def parseL (n : Int) (s : Bs) : Option T_asm_row := match wordsS s with
  | none => none
  | some (h, fs) => if isW h fs then (hexS (fs.getD 0 [])).map fun w => ⟨n, opS h, fs.map mkB, w⟩
    else if opS h = 0 then none else if (rowW ⟨n, opS h, fs.map mkB, 0⟩ [48]).isSome then some ⟨n, opS h, fs.map mkB, 0⟩ else none
theorem fieldsS_le {s : Bs} {fs : List Bs} (h : fieldsS s = some fs) : fs.length ≤ s.length + 1 ∧ ∀ f ∈ fs, f.length ≤ s.length := by
  unfold fieldsS at h
  split at h
  · cases h; exact split_le _ s (Nat.le_refl _)
  · cases h
theorem wordsS_le {s h : Bs} {fs : List Bs} (e : wordsS s = some (h, fs)) : fs.length ≤ s.length + 1 ∧ ∀ f ∈ fs, f.length ≤ s.length := by
  unfold wordsS at e
  split at e
  · cases e; exact ⟨Nat.zero_le _, fun f hf => by cases hf⟩
  · cases hq : fieldsS (s.drop ((s.takeWhile (· != 32)).length + 1)) with
    | none => rw [hq] at e; cases e
    | some gs =>
      rw [hq] at e; cases e
      have := fieldsS_le hq
      rw [List.length_drop] at this
      exact ⟨by omega, fun f hf => by have := this.2 f hf; omega⟩
theorem row_ok {s h : Bs} {fs : List Bs} {n w : Int} (hs : s.length < 4294967280) (e : wordsS s = some (h, fs)) : okR ⟨n, opS h, fs.map mkB, w⟩ := by
  obtain ⟨l1, l2⟩ := wordsS_le e
  obtain ⟨o1, o2⟩ := opS_r h
  refine ⟨o1, o2, by simp; omega, fun f hf => ?_⟩
  obtain ⟨g, hg, rfl⟩ := List.mem_map.1 hf
  rw [size_mk]
  have := l2 g hg; omega
/-- one line more -/
def lineS (rows : List T_asm_row) (ls : List T_asm_Label) (n : Int) (s : Bs) : (List T_asm_row × List T_asm_Label) ⊕ Int :=
  if s = [] ∨ s.head? = some 59 then .inl (rows, ls)
  else if s.getLast? = some 58 then (if nameS s.dropLast = false then .inr 22 else if 0 ≤ atS s.dropLast ls then .inr 51 else .inl (rows, ls ++ [⟨mkB s.dropLast, (rows.length : Int)⟩]))
  else match parseL n s with
    | none => .inr 22
    | some x => if 16384 ≤ rows.length then .inr 242 else .inl (rows ++ [x], ls)
theorem oR_inj : ∀ (x y : T_asm_reader), o_asm_reader x = o_asm_reader y → x = y := by
  intro x y h
  unfold o_asm_reader at h
  obtain ⟨⟨w, l⟩, r⟩ := x
  obtain ⟨⟨w', l'⟩, r'⟩ := y
  simp only [List.cons.injEq, Prod.mk.injEq, AV.sl.injEq, true_and, and_true] at h
  obtain ⟨h1, h2, h3⟩ := h
  have e1 := map_inj eI_inj _ _ h1
  have e2 := map_inj (E := e_asm_Label) (by intro x y h; cases x; cases y; unfold e_asm_Label at h; simpa using h) _ _ h2
  have e3 := map_inj (E := e_asm_row) (by
    intro x y h; cases x; cases y; unfold e_asm_row at h
    simp only [List.cons.injEq, AV.int.injEq, AV.sl.injEq, true_and, and_true] at h
    obtain ⟨h1, h2, h3, h4⟩ := h
    have := map_inj (E := eS) (by intro x y h; simpa [eS] using h) _ _ h3
    subst h1; subst h2; subst h4; subst this; rfl) _ _ h3
  subst e1; subst e2; subst e3; rfl
theorem oR_len (x : T_asm_reader) : (o_asm_reader x).length = 3 := rfl
theorem gR_app {H E : Heap} {i : Nat} {x : T_asm_reader} (h : get_asm_reader H i 0 = some x) : get_asm_reader (H ++ E) i 0 = some x := hgetT_of oR_inj (hget_app (hgetT_inv h))
theorem gR_set {H : Heap} {i : Nat} {x y : T_asm_reader} (h : get_asm_reader H i 0 = some x) : get_asm_reader (set_asm_reader H i 0 y) i 0 = some y := hgT_set oR_inj oR_len h y
theorem drop_last {s : Bs} {c : UInt8} (h : s.getLast? = some c) : s.drop (s.length - 1) = [c] ∧ s.take (s.length - 1) = s.dropLast := by
  have hne : s ≠ [] := fun e => by subst e; cases h
  refine ⟨?_, (List.dropLast_eq_take ..).symm⟩
  have hpos := List.length_pos_iff.2 hne
  have hl := last_at h
  rw [List.drop_eq_getElem_cons (by omega), List.drop_eq_nil_of_le (by omega)]
  rw [List.getElem?_eq_getElem (by omega)] at hl
  cases hl; rfl
theorem suffix_eq (s : ByteArray) (hs : s.size < 4294967280) (hne : bs s ≠ []) : strings_CutSuffix s { data := #[58] } = some (if (bs s).getLast? = some 58 then (mkB (bs s).dropLast, true) else (s, false)) := by
  unfold strings_CutSuffix internal_stringslite_CutSuffix internal_stringslite_HasSuffix
  have hpos := List.length_pos_iff.2 hne
  rw [size_bs] at hs ⊢
  have e1 : (((({ data := #[58] } : ByteArray)).size : Nat) : Int) = 1 := rfl
  have e2 : IntKind.wrap .i64 (((bs s).length : Int) - 1) = (((bs s).length - 1 : Nat) : Int) := by rw [wrap_i64 _ (by omega) (by omega)]; omega
  obtain ⟨c, hc⟩ : ∃ c, (bs s).getLast? = some c := ⟨_, List.getLast?_eq_some_getLast hne⟩
  obtain ⟨d1, d2⟩ := drop_last hc
  have c1 : sCut s (((bs s).length - 1 : Nat) : Int) ((bs s).length : Int) = some (mkB [c]) := by
    have := sCut_all s (lo := (bs s).length - 1) (by omega)
    rw [size_bs, d1] at this
    exact this
  have c2 : sCut s 0 (((bs s).length - 1 : Nat) : Int) = some (mkB (bs s).dropLast) := by
    have := sCut_some s (lo := 0) (hi := (bs s).length - 1) (Nat.zero_le _) (by omega)
    rw [List.drop_zero, Nat.sub_zero, d2] at this
    exact this
  rw [e1, e2, if_pos (by simp; omega), c1, bind1_some, show strEq (mkB [c]) { data := #[58] } = decide (bs (mkB [c]) = [58]) from strEq_mk _ _, bs_mk, bind1_some, bind1_some, c2, hc]
  by_cases e : c = 58
  · subst e; rfl
  · rw [decide_eq_false (by simpa using e), if_pos (by decide), if_neg (by simpa using e)]; rfl
/-- what a line leaves -/
def lineOk (H : Heap) (i : Nat) (W : List Int) (q : Option (Heap × Int)) (r : (List T_asm_row × List T_asm_Label) ⊕ Int) : Prop := ∃ H' e, q = some (H', e) ∧ match r with
  | .inl (rows, ls) => e = 0 ∧ get_asm_reader H' i 0 = some ⟨⟨W, ls⟩, rows⟩
  | .inr c => e = c
theorem asm_line_eq {H : Heap} {i : Nat} {W : List Int} {rows : List T_asm_row} {ls : List T_asm_Label} (n : Int) (s : ByteArray) (hs : s.size < 4294967280) (hH : get_asm_reader H i 0 = some ⟨⟨W, ls⟩, rows⟩) (hr : rows.length ≤ 4294967296) (hl : ls.length ≤ 4294967296) :
    lineOk H i W (asm_reader_line H (.at i 0) n s) (lineS rows ls n (bs s)) := by
  unfold asm_reader_line lineS
  rw [strEq_nil]
  cases hb : bs s with
  | nil =>
    rw [decide_eq_true rfl, if_pos rfl, bind1_some, if_pos rfl, if_pos (.inl rfl)]
    exact ⟨H, 0, rfl, rfl, hH⟩
  | cons c r =>
    have hs0 : sAt s 0 = some (u8i c) := sAt_some (i := 0) (by rw [hb]; rfl)
    rw [decide_eq_false (by simp), if_neg (by decide), hs0, bind1_some, bind1_some]
    by_cases e : c = 59
    · subst e
      rw [if_pos (by rfl), if_pos (.inr rfl)]
      exact ⟨H, 0, rfl, rfl, hH⟩
    · have hne : ¬ ((c :: r : Bs) = [] ∨ (c :: r : Bs).head? = some 59) := by simpa using e
      rw [if_neg (by rw [beq_iff_eq]; exact fun h => e (u8i_inj h)), if_neg hne, suffix_eq s hs (by rw [hb]; simp), hb]
      have hs' := hs
      rw [size_bs, hb] at hs'
      by_cases hl58 : (c :: r : Bs).getLast? = some 58
      · rw [if_pos hl58, if_pos hl58, bind2_some, if_pos rfl, asm_Name_eq _ (by rw [size_mk, List.length_dropLast]; omega), bind1_some, bs_mk]
        cases hn : nameS (c :: r : Bs).dropLast with
        | false =>
          rw [if_pos (by decide), if_pos rfl]
          exact ⟨H, 22, rfl, rfl⟩
        | true =>
          rw [if_neg (by decide), if_neg (by decide)]
          show lineOk H i W (bind1 (get_asm_reader H i 0) _) _
          rw [hH, bind1_some, asm_At_eq _ _ (by show ls.length < _; omega), bind1_some, bs_mk]
          by_cases ha : 0 ≤ atS (c :: r : Bs).dropLast ls
          · rw [if_pos (by simpa using ha), if_pos ha]
            exact ⟨H, 51, rfl, rfl⟩
          · rw [if_neg (by simpa using ha), if_neg ha, app_some (by simp; omega), bind1_some, bnd_def]
            exact ⟨_, 0, rfl, rfl, gR_set hH⟩
      · rw [if_neg hl58, if_neg hl58, bind2_some, if_neg (by decide)]
        obtain ⟨E, hE⟩ := asm_words_eq H s hs
        rw [hE, hb]
        have fin : ∀ (ok : Bool) (x : T_asm_row), lineOk H i W (asm_reader_line_j1 (H ++ E) (.at i 0) ok x) (if ok then (if 16384 ≤ rows.length then .inr 242 else .inl (rows ++ [x], ls)) else .inr 22) := by
          intro ok x
          unfold asm_reader_line_j1
          cases ok with
          | false => exact ⟨H ++ E, 22, rfl, rfl⟩
          | true =>
            rw [if_neg (by decide), if_pos rfl]
            show lineOk H i W (bind1 (get_asm_reader (H ++ E) i 0) _) _
            rw [gR_app hH, bind1_some]
            dsimp only
            by_cases hq : 16384 ≤ rows.length
            · rw [if_pos (by simp; omega), if_pos hq]
              exact ⟨_, 242, rfl, rfl⟩
            · rw [if_neg (by simp; omega), if_neg hq, app_some (by simp; omega), bind1_some, bnd_def]
              exact ⟨_, 0, rfl, rfl, gR_set (gR_app hH)⟩
        unfold parseL
        cases hw : wordsS (c :: r) with
        | none =>
          dsimp only
          rw [bind4_some, instr_Op_eq, bind1_some, show opS (bs (mkB [])) = 0 from by kernel_rfl]
          have e1 : (strEq (mkB []) { data := #[87, 79, 82, 68] } && ((([] : List ByteArray).length : Int) == 1)) = false := by simp
          rw [e1, if_neg (by decide), if_pos (by decide), bind1_some, if_pos rfl]
          exact fin false _
        | some p =>
          obtain ⟨h, fs⟩ := p
          have hok := fun (w : Int) => row_ok (n := n) (w := w) hs' hw
          dsimp only
          rw [bind4_some, instr_Op_eq, bind1_some, bs_mk]
          have e1 : (strEq (mkB h) { data := #[87, 79, 82, 68] } && (((fs.map mkB).length : Int) == 1)) = isW h fs := by
            unfold isW
            rw [show strEq (mkB h) { data := #[87, 79, 82, 68] } = decide (bs (mkB h) = [87, 79, 82, 68]) from strEq_mk _ _, bs_mk, List.length_map]
            congr 1
            rw [Bool.eq_iff_iff]; simp; omega
          rw [e1]
          cases hi : isW h fs with
          | true =>
            unfold isW at hi
            simp only [Bool.and_eq_true, decide_eq_true_eq] at hi
            obtain ⟨rfl, hlen⟩ := hi
            obtain ⟨f, rfl⟩ := List.length_eq_one_iff.1 hlen
            have g0 : gi (([f] : List Bs).map mkB) 0 = some (mkB f) := rfl
            rw [if_pos rfl, if_pos rfl, g0, bind1_some, word_ParseHex_eq, bs_mk, show ([f] : List Bs).getD 0 [] = f from rfl]
            cases hexS f with
            | none => exact fin false _
            | some w => exact fin true _
          | false =>
            rw [if_neg (show ¬ (false = true) by decide), if_neg (show ¬ (false = true) by decide)]
            by_cases h0 : opS h = 0
            · rw [if_pos (by simp [h0]), if_pos h0, bind1_some, if_pos rfl]
              exact fin false _
            · rw [if_neg (by simpa using h0), if_neg h0]
              obtain ⟨y, y1, y2⟩ := asm_with_eq ⟨n, opS h, fs.map mkB, 0⟩ [48] (hok 0) (by have := (opS_r h).1; show 1 ≤ opS h; omega) (by decide)
              have y1 : asm_row_with ⟨n, opS h, fs.map mkB, 0⟩ { data := #[48] } = _ := y1
              unfold asm_row_right
              rw [y1, bind2_some, bind1_some, bind1_some]
              cases (rowW ⟨n, opS h, fs.map mkB, 0⟩ [48]).isSome with
              | true =>
                rw [if_neg (by decide)]
                exact fin true _
              | false =>
                rw [if_pos (by decide)]
                exact fin false _
end Go.Proofs.Abs
/- The whole text, by both. -/
namespace Go.Proofs.Abs
open Go
set_option linter.unusedVariables false
set_option linter.unusedSimpArgs false
def asmL : List T_asm_row → List T_asm_Label → Nat → List Bs → (List T_asm_row × List T_asm_Label) ⊕ (Int × Int)
  | rows, ls, _, [] => .inl (rows, ls)
  | rows, ls, i, s :: r => match lineS rows ls ((i + 1 : Nat) : Int) s with
    | .inl q => asmL q.1 q.2 (i + 1) r
    | .inr e => .inr (((i + 1 : Nat) : Int), e)
theorem asmL_cons (rows : List T_asm_row) (ls : List T_asm_Label) (i : Nat) (s : Bs) (r : List Bs) : asmL rows ls i (s :: r) = match lineS rows ls ((i + 1 : Nat) : Int) s with
    | .inl q => asmL q.1 q.2 (i + 1) r
    | .inr e => .inr (((i + 1 : Nat) : Int), e) := rfl
def asmW (ls : List T_asm_Label) : Nat → List T_asm_row → List Int → List Int ⊕ (Int × Int)
  | _, [], out => .inl out
  | k, x :: r, out => if (placeS ls k x).2 = 0 then asmW ls (k + 1) r (out ++ [(placeS ls k x).1]) else .inr (x.line_, (placeS ls k x).2)
/-- what a text comes to -/
def asmS (s : Bs) : List Int × List T_asm_Label × Int × Int :=
  if 4096 < (cuts 10 s).length then ([], [], 4097, 242) else match asmL [] [] 0 (cuts 10 s) with
    | .inr q => ([], [], q.1, q.2)
    | .inl p => match asmW p.2 0 p.1 [] with
      | .inl w => (w, p.2, 0, 0)
      | .inr q => ([], [], q.1, q.2)
/-- rows and labels as they may be -/
def inv (i : Nat) (rows : List T_asm_row) (ls : List T_asm_Label) : Prop := rows.length ≤ 16384 ∧ rows.length ≤ i ∧ ls.length ≤ i ∧ (∀ x ∈ rows, okR x) ∧ ∀ l ∈ ls, 0 ≤ l.At_ ∧ l.At_ ≤ 4294967296
theorem line_inv {i : Nat} {rows rows' : List T_asm_row} {ls ls' : List T_asm_Label} {n : Int} {s : Bs} (hs : s.length < 4294967280) (h : inv i rows ls) (e : lineS rows ls n s = .inl (rows', ls')) : inv (i + 1) rows' ls' := by
  obtain ⟨h1, h2, h3, h4, h5⟩ := h
  unfold lineS at e
  split at e
  · cases e; exact ⟨h1, by omega, by omega, h4, h5⟩
  · split at e
    · split at e
      · cases e
      · split at e
        · cases e
        · cases e
          refine ⟨h1, by omega, by simp; omega, h4, fun l hl => ?_⟩
          rcases List.mem_append.1 hl with hl | hl
          · exact h5 l hl
          · rw [List.mem_singleton.1 hl]; dsimp only; omega
    · split at e
      · cases e
      · rename_i x hx
        split at e
        · cases e
        · cases e
          refine ⟨by simp; omega, by simp; omega, by omega, fun y hy => ?_, h5⟩
          rcases List.mem_append.1 hy with hy | hy
          · exact h4 y hy
          · rw [List.mem_singleton.1 hy]
            unfold parseL at hx
            cases hw : wordsS s with
            | none => rw [hw] at hx; cases hx
            | some p =>
              obtain ⟨hd, fs⟩ := p
              rw [hw] at hx
              dsimp only at hx
              split at hx
              · cases hq : hexS (fs.getD 0 []) with
                | none => rw [hq] at hx; cases hx
                | some w => rw [hq] at hx; cases hx; exact row_ok hs hw
              · split at hx
                · cases hx
                · split at hx
                  · cases hx; exact row_ok hs hw
                  · cases hx
theorem asmL_inv : ∀ (l : List Bs) (i : Nat) (rows rows' : List T_asm_row) (ls ls' : List T_asm_Label), (∀ s ∈ l, s.length < 4294967280) → inv i rows ls → asmL rows ls i l = .inl (rows', ls') → inv (i + l.length) rows' ls'
  | [], i, rows, rows', ls, ls', _, h, e => by cases e; exact h
  | s :: r, i, rows, rows', ls, ls', hs, h, e => by
    unfold asmL at e
    cases hq : lineS rows ls ((i + 1 : Nat) : Int) s with
    | inr c => rw [hq] at e; cases e
    | inl q =>
      rw [hq] at e
      have := asmL_inv r (i + 1) q.1 rows' q.2 ls' (fun t ht => hs t (List.mem_cons_of_mem _ ht)) (line_inv (hs s (List.mem_cons_self ..)) h hq) e
      rw [List.length_cons, show i + (r.length + 1) = i + 1 + r.length by omega]
      exact this
theorem asm_L1 (L : List ByteArray) (hL : L.length ≤ 4096) (hs : ∀ s ∈ L, s.size < 4294967280) : ∀ (l : List ByteArray) (i : Nat) (H : Heap) (rows : List T_asm_row) (ls : List T_asm_Label), L.drop i = l → i ≤ L.length → get_asm_reader H 0 0 = some ⟨⟨[], ls⟩, rows⟩ → inv i rows ls →
    ∃ r, loopO (fun (x : (Int × Heap)) => asm_Assemble_L1 L 0 x.1 x.2) ((i : Int), H) = some r ∧ match asmL rows ls i (l.map bs) with
      | .inl p => ∃ H', r = .inl H' ∧ get_asm_reader H' 0 0 = some ⟨⟨[], p.2⟩, p.1⟩
      | .inr q => ∃ H', r = .inr (q.1, q.2, H')
  | [], i, H, rows, ls, hl, hi, hH, hv => by
    have : i = L.length := by have := congrArg List.length hl; simp at this; omega
    subst this
    refine ⟨.inl H, loopO_out ?_, H, rfl, hH⟩
    unfold asm_Assemble_L1
    dsimp only
    rw [i_ge, if_neg (by decide)]
  | s :: l, i, H, rows, ls, hl, hi, hH, hv => by
    have hx : L[i]? = some s := by have := congrArg (·[0]?) hl; simpa using this
    have hil := len_of hx
    have hd : L.drop (i + 1) = l := by rw [← List.drop_drop, hl]; rfl
    have hss := hs s (List.mem_of_getElem? hx)
    obtain ⟨H', e, h1, h2⟩ := asm_line_eq ((i + 1 : Nat) : Int) s hss hH (by have := hv.1; omega) (by have := hv.2.2.1; omega)
    have step : asm_Assemble_L1 L 0 (i : Int) H = some (if e = 0 then .inl (((i + 1 : Nat) : Int), H') else .inr (.inr (((i + 1 : Nat) : Int), e, H'))) := by
      unfold asm_Assemble_L1
      rw [i_lt hx, if_pos rfl, gi_nat hx, bind1_some, wr64 i (by omega), h1, bind2_some]
      by_cases he : e = 0
      · rw [if_neg (by simp [he]), if_pos he]
      · rw [if_pos (by simpa using he), if_neg he]
    rw [List.map_cons, asmL_cons]
    have ne0 : ∀ c, lineS rows ls ((i + 1 : Nat) : Int) (bs s) = .inr c → c ≠ 0 := by
      intro c hc
      unfold lineS at hc
      split at hc
      · cases hc
      · split at hc
        · split at hc
          · cases hc; decide
          · split at hc
            · cases hc; decide
            · cases hc
        · split at hc
          · cases hc; decide
          · split at hc
            · cases hc; decide
            · cases hc
    cases hq : lineS rows ls ((i + 1 : Nat) : Int) (bs s) with
    | inr c =>
      rw [hq] at h2
      have h2 : e = c := h2
      rw [if_neg (by rw [h2]; exact ne0 c hq)] at step
      exact ⟨_, loopO_out step, H', by rw [h2]⟩
    | inl q =>
      rw [hq] at h2
      obtain ⟨e0, h2⟩ := h2
      rw [if_pos e0] at step
      rw [size_bs] at hss
      obtain ⟨r, r1, r2⟩ := asm_L1 L hL hs l (i + 1) H' q.1 q.2 hd hil h2 (line_inv hss hv hq)
      exact ⟨r, by rw [loopO_go (s' := (((i + 1 : Nat) : Int), H')) step]; exact r1, r2⟩
theorem asm_L2 (rows : List T_asm_row) (ls : List T_asm_Label) (x16 : T_asm_reader) (h16 : x16.rows_ = rows) (hv : rows.length ≤ 16384) (hr : ∀ x ∈ rows, okR x) (hls : okLs ls) : ∀ (l : List T_asm_row) (k : Nat) (H : Heap) (out : List Int), rows.drop k = l → k ≤ rows.length → out.length = k → get_asm_reader H 0 0 = some ⟨⟨out, ls⟩, rows⟩ →
    ∃ r, loopO (fun (x : (Int × Heap)) => asm_Assemble_L2 x16 0 x.1 x.2) ((k : Int), H) = some r ∧ match asmW ls k l out with
      | .inl w => ∃ H', r = .inl H' ∧ get_asm_reader H' 0 0 = some ⟨⟨w, ls⟩, rows⟩
      | .inr q => ∃ H', r = .inr (q.1, q.2, H')
  | [], k, H, out, hl, hk, ho, hH => by
    have : k = rows.length := by have := congrArg List.length hl; simp at this; omega
    subst this
    refine ⟨.inl H, loopO_out ?_, H, rfl, hH⟩
    unfold asm_Assemble_L2
    dsimp only
    rw [h16, i_ge, if_neg (by decide)]
  | x :: l, k, H, out, hl, hk, ho, hH => by
    have hx : rows[k]? = some x := by have := congrArg (·[0]?) hl; simpa using this
    have hil := len_of hx
    have hd : rows.drop (k + 1) = l := by rw [← List.drop_drop, hl]; rfl
    have hp := asm_place_eq hH hx (hr x (List.mem_of_getElem? hx)) hls (by omega)
    dsimp only at hp
    obtain ⟨w, e, hpe⟩ : ∃ w e, placeS ls k x = (w, e) := ⟨_, _, rfl⟩
    rw [hpe] at hp
    unfold asmW
    rw [hpe]
    dsimp only
    by_cases he : e = 0
    · have step : asm_Assemble_L2 x16 0 (k : Int) H = some (.inl (((k + 1 : Nat) : Int), set_asm_reader H 0 0 ⟨⟨out ++ [w], ls⟩, rows⟩)) := by
        unfold asm_Assemble_L2
        rw [h16, i_lt hx, if_pos rfl, hH, bind1_some]
        dsimp only
        rw [gi_nat hx, bind1_some, show sameN rows.length rows.length = some () from if_pos rfl, bind1_some, hp, bind2_some, if_neg (by simp [he]), app_some (by simp; omega), bind1_some, bnd_def, wr64 k (by omega)]
      obtain ⟨r, r1, r2⟩ := asm_L2 rows ls x16 h16 hv hr hls l (k + 1) _ (out ++ [w]) hd hil (by simp; omega) (gR_set hH)
      rw [if_pos he]
      exact ⟨r, by rw [loopO_go (s' := (((k + 1 : Nat) : Int), set_asm_reader H 0 0 ⟨⟨out ++ [w], ls⟩, rows⟩)) step]; exact r1, r2⟩
    · have step : asm_Assemble_L2 x16 0 (k : Int) H = some (.inr (.inr (x.line_, e, H))) := by
        unfold asm_Assemble_L2
        rw [h16, i_lt hx, if_pos rfl, hH, bind1_some]
        dsimp only
        rw [gi_nat hx, bind1_some, show sameN rows.length rows.length = some () from if_pos rfl, bind1_some, hp, bind2_some, if_pos (by simpa using he)]
      rw [if_neg he]
      exact ⟨_, loopO_out step, H, rfl⟩
theorem cuts_sz {s : ByteArray} (hs : s.size < 4294967280) : ∀ t ∈ (cuts 10 (bs s)).map mkB, t.size < 4294967280 := by
  intro t ht
  obtain ⟨p, hp, rfl⟩ := List.mem_map.1 ht
  have := cuts_mem_le 10 (bs s) p hp
  rw [size_mk]; rw [size_bs] at hs; omega
theorem map_bs_mk (l : List Bs) : (l.map mkB).map bs = l := by rw [List.map_map]; exact List.map_id _
theorem asm_eq (s : ByteArray) (hs : s.size < 4294967280) : asm_Assemble s = some (⟨(asmS (bs s)).1, (asmS (bs s)).2.1⟩, (asmS (bs s)).2.2.1, (asmS (bs s)).2.2.2) := by
  unfold asm_Assemble asmS
  have sp : splitC s { data := #[10] } = _ := splitC_eq s [10] (by omega) (by simp)
  rw [sp, bind1_some, split_one, List.length_map]
  by_cases h : 4096 < (cuts 10 (bs s)).length
  · rw [if_pos (by simp; omega), if_pos h]
  · rw [if_neg (by simp; omega), if_neg h, bnd_def, bnd_def, show ([] : Heap).length = 0 from rfl]
    have g0 : get_asm_reader (new_asm_reader ([] : Heap) ⟨⟨[], []⟩, []⟩) 0 0 = some ⟨⟨[], []⟩, []⟩ := hgT_new (en := o_asm_reader) (n := 3) oR_inj oR_len [] _
    obtain ⟨r, r1, r2⟩ := asm_L1 ((cuts 10 (bs s)).map mkB) (by simp; omega) (cuts_sz hs) _ 0 _ [] [] rfl (Nat.zero_le _) g0 ⟨by decide, by decide, by decide, fun x hx => (by cases hx), fun x hx => (by cases hx)⟩
    have r1 : loopO (fun (x : (Int × Heap)) => asm_Assemble_L1 ((cuts 10 (bs s)).map mkB) 0 x.1 x.2) (0, new_asm_reader ([] : Heap) ⟨⟨[], []⟩, []⟩) = _ := r1
    rw [r1, bind1_some]
    rw [List.drop_zero, map_bs_mk] at r2
    cases hq : asmL [] [] 0 (cuts 10 (bs s)) with
    | inr q =>
      rw [hq] at r2
      obtain ⟨H', rfl⟩ := r2
      rfl
    | inl p =>
      rw [hq] at r2
      obtain ⟨H', rfl, h2⟩ := r2
      have hin := asmL_inv (cuts 10 (bs s)) 0 [] p.1 [] p.2 (fun t ht => by
        have := cuts_mem_le 10 (bs s) t ht
        rw [size_bs] at hs; omega) ⟨by decide, by decide, by decide, fun x hx => (by cases hx), fun x hx => (by cases hx)⟩ hq
      obtain ⟨v1, v2, v3, v4, v5⟩ := hin
      rw [sum2_inl, h2, bind1_some]
      obtain ⟨r, r1, r2⟩ := asm_L2 p.1 p.2 ⟨⟨[], p.2⟩, p.1⟩ rfl v1 v4 ⟨by omega, v5⟩ _ 0 H' [] rfl (Nat.zero_le _) rfl h2
      have r1 : loopO (fun (x : (Int × Heap)) => asm_Assemble_L2 ⟨⟨[], p.2⟩, p.1⟩ 0 x.1 x.2) (0, H') = _ := r1
      rw [r1, bind1_some]
      rw [List.drop_zero] at r2
      dsimp only
      cases hw : asmW p.2 0 p.1 [] with
      | inr q =>
        rw [hw] at r2
        obtain ⟨H2, rfl⟩ := r2
        rfl
      | inl w =>
        rw [hw] at r2
        obtain ⟨H2, rfl, h3⟩ := r2
        rw [sum2_inl, h3, bind1_some]
end Go.Proofs.Abs
/- Words alike; how many there are. -/
namespace Go.Proofs.Abs
open Go
set_option linter.unusedVariables false
set_option linter.unusedSimpArgs false
theorem words_same (w : List Int) (h : w.length < 4611686018427387904) : ref01_Words w w = some true := by
  unfold ref01_Words
  rw [if_neg (by simp)]
  have hl := loop_find (xs := w) (f := fun (x : Int) => ref01_Words_L1 w w x) (fun _ _ => none) (.inl ())
    (fun i x hx => by
      unfold ref01_Words_L1
      rw [i_lt hx, if_pos rfl, gi_nat hx, bind1_some, bind1_some, if_neg (by simp), wr64 i (by have := len_of hx; omega)])
    (by unfold ref01_Words_L1; rw [i_ge, if_neg (by decide)])
  have e : ∀ (l : List Int) (i : Nat), findG (fun _ _ => none) (.inl () : Unit ⊕ Unit) i l = .inl () := by
    intro l
    induction l with
    | nil => intro i; rfl
    | cons x l ih => intro i; exact ih (i + 1)
  rw [hl, e]; rfl
end Go.Proofs.Abs
/- The page's example; lists alike. -/
namespace Go.Proofs.Abs
open Go
set_option linter.unusedVariables false
set_option linter.unusedSimpArgs false
def exT : Bs := [108, 111, 111, 112, 58, 10, 66, 82, 32, 108, 111, 111, 112, 10]
theorem exS : asmS exT = ([385875967], [⟨mkB [108, 111, 111, 112], 0⟩], 0, 0) := by kernel_rfl
theorem awake_ok : law05_awake = some true := by
  unfold law05_awake
  have e : asm_Assemble { data := #[108, 111, 111, 112, 58, 10, 66, 82, 32, 108, 111, 111, 112, 10] } = _ := asm_eq (mkB exT) (by decide)
  rw [e, bs_mk, exS, bind3_some]
  have a1 := asm_At_eq ⟨[385875967], [⟨mkB [108, 111, 111, 112], 0⟩]⟩ (mkB [108, 111, 111, 112]) (by decide)
  have a2 := asm_At_eq ⟨[385875967], [⟨mkB [108, 111, 111, 112], 0⟩]⟩ (mkB [120]) (by decide)
  have a1 : asm_Unit_At ⟨[385875967], [⟨mkB [108, 111, 111, 112], 0⟩]⟩ { data := #[108, 111, 111, 112] } = some 0 := a1.trans (congrArg some (by kernel_rfl))
  have a2 : asm_Unit_At ⟨[385875967], [⟨mkB [108, 111, 111, 112], 0⟩]⟩ { data := #[120] } = some (-1) := a2.trans (congrArg some (by kernel_rfl))
  have g : gi ([385875967] : List Int) 0 = some 385875967 := rfl
  dsimp only
  rw [if_pos (by decide), if_pos (by decide), if_pos (by decide), g, bind1_some, if_pos (by decide), a1, bind1_some, if_pos (by decide), a2]
  rfl
end Go.Proofs.Abs
/- Texts in pieces. The runtime's text. -/
namespace Go.Proofs.Abs
open Go
set_option linter.unusedVariables false
set_option linter.unusedSimpArgs false
theorem asmL_app (l2 : List Bs) : ∀ (l1 : List Bs) (rows rows' : List T_asm_row) (ls ls' : List T_asm_Label) (i : Nat), asmL rows ls i l1 = .inl (rows', ls') → asmL rows ls i (l1 ++ l2) = asmL rows' ls' (i + l1.length) l2
  | [], rows, rows', ls, ls', i, h => by cases h; rfl
  | s :: l1, rows, rows', ls, ls', i, h => by
    rw [asmL_cons] at h
    rw [List.cons_append, asmL_cons]
    cases hq : lineS rows ls ((i + 1 : Nat) : Int) s with
    | inr e => rw [hq] at h; cases h
    | inl q =>
      rw [hq] at h
      have := asmL_app l2 l1 q.1 rows' q.2 ls' (i + 1) h
      rw [List.length_cons, show i + (l1.length + 1) = i + 1 + l1.length by omega]
      exact this
/-- lines that are instructions, whatever their number, each by itself one word -/
def plainL (s : Bs) (op : Int) (fs : List ByteArray) (w : Int) (v : Int) : Prop :=
  s ≠ [] ∧ s.head? ≠ some 59 ∧ s.getLast? ≠ some 58 ∧ (∀ n, parseL n s = some ⟨n, op, fs, w⟩) ∧ ∀ ls k n, placeS ls k ⟨n, op, fs, w⟩ = (v, 0)
theorem plain_line {s : Bs} {op w v : Int} {fs : List ByteArray} (h : plainL s op fs w v) (rows : List T_asm_row) (ls : List T_asm_Label) (n : Int) (hr : rows.length < 16384) : lineS rows ls n s = .inl (rows ++ [⟨n, op, fs, w⟩], ls) := by
  obtain ⟨h1, h2, h3, h4, h5⟩ := h
  unfold lineS
  rw [if_neg (by rintro (h | h); exact h1 h; exact h2 h), if_neg h3, h4]
  dsimp only
  rw [if_neg (by omega)]
/-- many such lines -/
inductive Plains : List Bs → List (Int × List ByteArray × Int) → List Int → Prop
  | nil : Plains [] [] []
  | cons {s op fs w v l r vs} : plainL s op fs w v → Plains l r vs → Plains (s :: l) ((op, fs, w) :: r) (v :: vs)
def rowsAt : Nat → List (Int × List ByteArray × Int) → List T_asm_row
  | _, [] => []
  | i, x :: r => ⟨((i + 1 : Nat) : Int), x.1, x.2.1, x.2.2⟩ :: rowsAt (i + 1) r
theorem plains_L {l : List Bs} {r vs} (h : Plains l r vs) : ∀ (rows : List T_asm_row) (ls : List T_asm_Label) (i : Nat), rows.length + l.length ≤ 16384 → asmL rows ls i l = .inl (rows ++ rowsAt i r, ls) := by
  induction h with
  | nil => intro rows ls i _; simp [asmL, rowsAt]
  | cons h _ ih =>
    intro rows ls i hr
    rw [List.length_cons] at hr
    rw [asmL_cons, plain_line h rows ls _ (by omega)]
    dsimp only
    rw [ih _ _ _ (by simp; omega), List.append_assoc]; rfl
theorem plains_W {l : List Bs} {r vs} (h : Plains l r vs) : ∀ (ls : List T_asm_Label) (k i : Nat) (out : List Int), asmW ls k (rowsAt i r) out = .inl (out ++ vs) := by
  induction h with
  | nil => intro ls k i out; simp [asmW, rowsAt]
  | cons h _ ih =>
    intro ls k i out
    show (if (placeS ls k _).2 = 0 then asmW ls (k + 1) (rowsAt (i + 1) _) (out ++ [(placeS ls k _).1]) else _) = _
    rw [h.2.2.2.2]
    dsimp only
    rw [if_pos rfl, ih, List.append_assoc]; rfl
theorem Plains.app {l1 r1 v1 l2 r2 v2} (h : Plains l1 r1 v1) (k : Plains l2 r2 v2) : Plains (l1 ++ l2) (r1 ++ r2) (v1 ++ v2) := by
  induction h with
  | nil => exact k
  | cons h _ ih => exact .cons h ih
theorem Plains.len {l r vs} (h : Plains l r vs) : r.length = l.length ∧ vs.length = l.length := by
  induction h with
  | nil => exact ⟨rfl, rfl⟩
  | cons _ _ ih => simp [ih]
end Go.Proofs.Abs
/- The text of an instruction, or of a word, is a line that comes to it. -/
namespace Go.Proofs.Abs
open Go
set_option linter.unusedVariables false
set_option linter.unusedSimpArgs false
set_option maxRecDepth 100000
theorem last_app {a b : Bs} (h : b ≠ []) : (a ++ b).getLast? = b.getLast? := by
  rw [List.getLast?_append]
  cases hb : b.getLast? with
  | none => exact absurd (List.getLast?_eq_none_iff.1 hb) h
  | some x => rfl
/-- signs of numbers and registers -/
def numC (c : UInt8) : Bool := isD c || c == 45 || c == 114
theorem numC_all : ((List.range 256).all fun n => !numC (UInt8.ofNat n) || (UInt8.ofNat n != 32 && UInt8.ofNat n != 44 && UInt8.ofNat n != 10 && UInt8.ofNat n != 58)) = true := by kernel_rfl
theorem numC_ne {c : UInt8} (h : numC c = true) : c ≠ 32 ∧ c ≠ 44 ∧ c ≠ 10 ∧ c ≠ 58 := by
  have := List.all_eq_true.1 numC_all c.toNat (List.mem_range.2 c.toNat_lt)
  rw [UInt8.ofNat_toNat] at this
  simp [h] at this
  exact ⟨this.1.1.1, this.1.1.2, this.1.2, this.2⟩
theorem dec_num {n : Int} (h1 : -2147483648 ≤ n) (h2 : n ≤ 2147483647) : decS n ≠ [] ∧ (decS n).all numC = true := by
  have hd : ∀ m : Nat, m < 10000000000 → natD m ≠ [] ∧ (natD m).all numC = true := fun m hm => by
    obtain ⟨a, b, _⟩ := natD_spec 10 m hm (by decide) (by decide)
    refine ⟨a, List.all_eq_true.2 fun c hc => ?_⟩
    have := List.all_eq_true.1 b c hc
    unfold numC; rw [this]; rfl
  unfold decS
  split
  · obtain ⟨a, b⟩ := hd (-n).toNat (by omega)
    refine ⟨by simp, ?_⟩
    rw [List.all_cons, b]; rfl
  · exact hd n.toNat (by omega)
def fldS (op : Int) (k : Nat) (v : Int) : Bs := if k = 4 ∨ op = 26 ∧ k = 2 then decS v else 114 :: decS v
theorem fld_num {op v : Int} {k : Nat} (h1 : -2147483648 ≤ v) (h2 : v ≤ 2147483647) : fldS op k v ≠ [] ∧ (fldS op k v).all numC = true := by
  obtain ⟨a, b⟩ := dec_num h1 h2
  unfold fldS
  split
  · exact ⟨a, b⟩
  · refine ⟨by simp, ?_⟩
    rw [List.all_cons, b]; rfl
theorem valP_fld {op v : Int} {k : Nat} (h1 : -2147483648 ≤ v) (h2 : v ≤ 2147483647) : valP op k (fldS op k v) = some v := by
  unfold valP fldS
  split
  · exact parse_dec h1 h2
  · unfold regS
    rw [if_pos (show (114 :: decS v).head? = some 114 from rfl)]; exact parse_dec h1 h2
theorem num_good {f : Bs} (h : f ≠ [] ∧ f.all numC = true) : goodF f = true := by
  unfold goodF
  have : f.all (fun c => c != 32 && c != 44) = true := List.all_eq_true.2 fun c hc => by
    have := numC_ne (List.all_eq_true.1 h.2 c hc)
    simp [this.1, this.2.1]
  rw [this]
  cases f with
  | nil => exact absurd rfl h.1
  | cons c f => rfl
def small (x : T_instr_Instr) : Prop := ∀ k, -2147483648 ≤ fget x k ∧ fget x k ≤ 2147483647
theorem okX_small {x : T_instr_Instr} (h : okX x) : small x := by
  obtain ⟨a, b, c, i, _⟩ := h
  intro k
  unfold fget
  unfold imP at i
  split
  · omega
  · split
    · omega
    · split <;> omega
theorem filP_fold (op : Int) (x : T_instr_Instr) (hx : small x) : ∀ (ks : List Nat) (y : T_instr_Instr), filP op ks (ks.map fun k => fldS op k (fget x k)) y = some (ks.foldl (fun y k => fset y k (fget x k)) y)
  | [], y => rfl
  | k :: ks, y => by
    rw [List.map_cons]
    show (valP op k (fldS op k (fget x k))).bind (fun v => filP op ks _ (fset y k v)) = _
    rw [valP_fld (hx k).1 (hx k).2]
    exact filP_fold op x hx ks _
def fsS (x : T_instr_Instr) : List Bs := (plS (shS x.Op_)).map fun k => fldS x.Op_ k (fget x k)
theorem fill_fs {x : T_instr_Instr} (ho : 1 ≤ x.Op_) (ho2 : x.Op_ ≤ 34) (hk : okX x) : fillS x.Op_ (fsS x) = some x := by
  unfold fillS fsS
  rw [filP_fold _ x (okX_small hk)]
  have hr := shS_r ho ho2
  obtain ⟨op, a, b, c, n⟩ := x
  have hk' := hk
  obtain ⟨ra, rb, rc, ri, rk⟩ := hk
  dsimp only at *
  have e : (plS (shS op)).foldl (fun y k => fset y k (fget ⟨op, a, b, c, n⟩ k)) ⟨op, 0, 0, 0, 0⟩ = (⟨op, a, b, c, n⟩ : T_instr_Instr) := by
    unfold imP at ri
    unfold ckP at rk
    rcases sh9 hr.1 hr.2 with h | h | h | h | h | h | h | h | h <;> rw [h] at ri rk ⊢
    · show (⟨op, 0, 0, 0, 0⟩ : T_instr_Instr) = _
      rw [show a = 0 by omega, show b = 0 by omega, show c = 0 by omega, show n = 0 by omega]
    · show (⟨op, a, 0, 0, n⟩ : T_instr_Instr) = _
      rw [show b = 0 by omega, show c = 0 by omega]
    · show (⟨op, a, 0, 0, n⟩ : T_instr_Instr) = _
      rw [show b = 0 by omega, show c = 0 by omega]
    · show (⟨op, a, b, 0, n⟩ : T_instr_Instr) = _
      rw [show c = 0 by omega]
    · show (⟨op, a, b, 0, n⟩ : T_instr_Instr) = _
      rw [show c = 0 by omega]
    · show (⟨op, a, b, c, 0⟩ : T_instr_Instr) = _
      rw [show n = 0 by omega]
    · show (⟨op, a, 0, 0, 0⟩ : T_instr_Instr) = _
      rw [show b = 0 by omega, show c = 0 by omega, show n = 0 by omega]
    · show (⟨op, 0, 0, 0, n⟩ : T_instr_Instr) = _
      rw [show a = 0 by omega, show b = 0 by omega, show c = 0 by omega]
    · show (⟨op, 0, 0, 0, n⟩ : T_instr_Instr) = _
      rw [show a = 0 by omega, show b = 0 by omega, show c = 0 by omega]
  rw [e]
  show (if okX _ then _ else _) = _
  rw [if_pos hk']
/-! names -/
def nmS (op : Int) : Bs := opNames.getD (op.toNat - 1) []
theorem nm_all : ((List.range 34).all fun i => (!(nmS ((i : Nat) + 1 : Int)).isEmpty) && (nmS ((i : Nat) + 1 : Int)).all (fun c => c != 32 && c != 10 && c != 58 && c != 59) && decide (nmS ((i : Nat) + 1 : Int) ≠ [87, 79, 82, 68]) && decide (opS (nmS ((i : Nat) + 1 : Int)) = ((i : Nat) + 1 : Int))) = true := by kernel_rfl
theorem nm_ok {op : Int} (h0 : 1 ≤ op) (h1 : op ≤ 34) : nmS op ≠ [] ∧ (∀ c ∈ nmS op, c ≠ 32 ∧ c ≠ 10 ∧ c ≠ 58 ∧ c ≠ 59) ∧ nmS op ≠ [87, 79, 82, 68] ∧ opS (nmS op) = op := by
  have := List.all_eq_true.1 nm_all (op.toNat - 1) (List.mem_range.2 (by omega))
  rw [show ((op.toNat - 1 : Nat) : Int) + 1 = op by omega] at this
  simp only [Bool.and_eq_true, decide_eq_true_eq, Bool.not_eq_true', List.isEmpty_eq_false_iff, List.all_eq_true, bne_iff_ne] at this
  obtain ⟨⟨⟨a, b⟩, c⟩, d⟩ := this
  exact ⟨a, fun x hx => by have := b x hx; exact ⟨this.1.1.1, this.1.1.2, this.1.2, this.2⟩, c, d⟩
def lineI (x : T_instr_Instr) : Bs := nmS x.Op_ ++ (if fsS x = [] then [] else 32 :: joinF (fsS x))
theorem tw_app {h r : Bs} (hh : ∀ c ∈ h, c ≠ 32) : (h ++ 32 :: r).takeWhile (· != 32) = h := by
  induction h with
  | nil => rfl
  | cons c h ih =>
    have h1 := hh c (List.mem_cons_self ..)
    rw [List.cons_append, List.takeWhile_cons, if_pos (by simpa using h1), ih fun d hd => hh d (List.mem_cons_of_mem _ hd)]
theorem tw_all {h : Bs} (hh : ∀ c ∈ h, c ≠ 32) : h.takeWhile (· != 32) = h := by
  induction h with
  | nil => rfl
  | cons c h ih =>
    have h1 := hh c (List.mem_cons_self ..)
    rw [List.takeWhile_cons, if_pos (by simpa using h1), ih fun d hd => hh d (List.mem_cons_of_mem _ hd)]
theorem words_line {h : Bs} {fs : List Bs} (hh : ∀ c ∈ h, c ≠ 32) (hf : fs.all goodF = true) : wordsS (h ++ (if fs = [] then [] else 32 :: joinF fs)) = some (h, fs) := by
  unfold wordsS
  by_cases e : fs = []
  · subst e
    rw [if_pos rfl, List.append_nil, tw_all hh, if_pos rfl]
  · rw [if_neg e, tw_app hh, if_neg (by simp), List.drop_append, List.drop_of_length_le (by omega), show h.length + 1 - h.length = 1 by omega]
    show (fieldsS (joinF fs)).map _ = _
    rw [fieldsS_iff.2 ⟨e, rfl, hf⟩]; rfl
theorem fs_num {x : T_instr_Instr} (hk : okX x) : ∀ f ∈ fsS x, f ≠ [] ∧ f.all numC = true := fun f hf => by
  unfold fsS at hf
  obtain ⟨k, _, rfl⟩ := List.mem_map.1 hf
  have := okX_small hk k
  exact fld_num this.1 this.2
theorem num_name {f : Bs} (h : f ≠ [] ∧ f.all numC = true) (h0 : f.head? ≠ some 114) : nameS f = false := by
  cases f with
  | nil => exact absurd rfl h.1
  | cons c f =>
    unfold nameS
    have hc : nameC 0 c = false := by
      have h1 := List.all_eq_true.1 h.2 c (List.mem_cons_self ..)
      have h2 : c ≠ 114 := fun e => h0 (by rw [e]; rfl)
      unfold numC isD at h1
      unfold nameC u8i
      have : c ≠ 45 → 48 ≤ c.toNat ∧ c.toNat ≤ 57 := fun h45 => by simpa [h2, h45] using h1
      by_cases h45 : c = 45
      · subst h45; rfl
      · have := this h45
        simp; omega
    unfold findG
    rw [hc]; simp
/-- the last field of a jump is a number -/
theorem jump_last {x : T_instr_Instr} (ho : 1 ≤ x.Op_) (ho2 : x.Op_ ≤ 34) (hk : okX x) : namedS x.Op_ ((fsS x).map mkB) = [] := by
  unfold namedS
  cases hl : ((fsS x).map mkB).getLast? with
  | none => rfl
  | some f =>
    dsimp only
    by_cases hj : jumpS x.Op_ = true
    · have hf : nameS (bs f) = false := by
        rw [List.getLast?_map] at hl
        obtain ⟨g, hg, rfl⟩ := Option.map_eq_some_iff.1 hl
        rw [bs_mk]
        have hm := fs_num hk g (List.mem_of_getLast? hg)
        refine num_name hm ?_
        unfold jumpS at hj
        simp at hj
        have hd := dec_num (okX_small hk 4).1 (okX_small hk 4).2
        have e : g = decS (fget x 4) := by
          unfold fsS at hg
          have h4 : x.Op_ = 20 ∨ x.Op_ = 21 ∨ x.Op_ = 22 ∨ x.Op_ = 23 := by omega
          rcases h4 with h | h | h | h <;> (rw [h] at hg; exact (Option.some.inj hg).symm)
        rw [e]
        unfold decS
        split
        · simp
        · intro h114
          have hn := natD_spec 10 (fget x 4).toNat (by have := (okX_small hk 4).2; omega) (by decide) (by decide)
          have := List.all_eq_true.1 hn.2.1 114 (List.mem_of_head? h114)
          exact absurd this (by decide)
      rw [hf]; simp
    · simp at hj; rw [hj]; simp
theorem join_num : ∀ {fs : List Bs}, (∀ f ∈ fs, f ≠ [] ∧ f.all numC = true) → fs ≠ [] → joinF fs ≠ [] ∧ (joinF fs).getLast? ≠ some 58 ∧ ∀ c ∈ joinF fs, c ≠ 10
  | [], _, h => absurd rfl h
  | [f], h, _ => by
    obtain ⟨a, b⟩ := h f (List.mem_cons_self ..)
    refine ⟨a, fun e => ?_, fun c hc => ?_⟩
    · exact (numC_ne (List.all_eq_true.1 b 58 (List.mem_of_getLast? e))).2.2.2 rfl
    · exact (numC_ne (List.all_eq_true.1 b c hc)).2.2.1
  | f :: g :: r, h, _ => by
    obtain ⟨a, b⟩ := h f (List.mem_cons_self ..)
    obtain ⟨j1, j2, j3⟩ := join_num (fs := g :: r) (fun f hf => h f (List.mem_cons_of_mem _ hf)) (by simp)
    show f ++ 44 :: 32 :: joinF (g :: r) ≠ [] ∧ (f ++ 44 :: 32 :: joinF (g :: r)).getLast? ≠ some 58 ∧ ∀ c ∈ f ++ 44 :: 32 :: joinF (g :: r), c ≠ 10
    refine ⟨by simp, ?_, fun c hc => ?_⟩
    · rw [show f ++ 44 :: 32 :: joinF (g :: r) = (f ++ [44, 32]) ++ joinF (g :: r) by simp, last_app j1]
      exact j2
    · rcases List.mem_append.1 hc with hc | hc
      · exact (numC_ne (List.all_eq_true.1 b c hc)).2.2.1
      · simp only [List.mem_cons] at hc
        rcases hc with rfl | rfl | hc
        · decide
        · decide
        · exact j3 c hc
theorem line_I {x : T_instr_Instr} (ho : 1 ≤ x.Op_) (ho2 : x.Op_ ≤ 34) (hk : okX x) : plainL (lineI x) x.Op_ ((fsS x).map mkB) 0 (woP (shS x.Op_) x.Op_ x.A_ x.B_ x.C_ x.Imm_) ∧ ∀ c ∈ lineI x, c ≠ 10 := by
  obtain ⟨n1, n2, n3, n4⟩ := nm_ok ho ho2
  have hfn := fs_num hk
  have hg : (fsS x).all goodF = true := List.all_eq_true.2 fun f hf => num_good (hfn f hf)
  have hw := words_line (h := nmS x.Op_) (fs := fsS x) (fun c hc => (n2 c hc).1) hg
  have hnm := jump_last ho ho2 hk
  have hmb : ((fsS x).map mkB).map bs = fsS x := map_bs_mk _
  have hrow : ∀ (n w : Int) (last : Bs), rowW ⟨n, x.Op_, (fsS x).map mkB, w⟩ last = some x := fun n w last => by
    unfold rowW nmd subL
    dsimp only
    rw [hnm, hmb]
    exact fill_fs ho ho2 hk
  refine ⟨⟨?_, ?_, ?_, fun n => ?_, fun ls k n => ?_⟩, fun c hc => ?_⟩
  · unfold lineI; simp [n1]
  · unfold lineI
    cases hs : nmS x.Op_ with
    | nil => exact absurd hs n1
    | cons c r =>
      intro e
      simp at e
      exact (n2 c (by rw [hs]; exact List.mem_cons_self ..)).2.2.2 e
  · unfold lineI
    split
    · rw [List.append_nil]
      exact fun e => (n2 58 (List.mem_of_getLast? e)).2.2.1 rfl
    · rename_i hne
      obtain ⟨j1, j2, _⟩ := join_num hfn hne
      rw [show nmS x.Op_ ++ 32 :: joinF (fsS x) = (nmS x.Op_ ++ [32]) ++ joinF (fsS x) by simp, last_app j1]
      exact j2
  · unfold parseL lineI
    rw [hw]
    dsimp only
    have hiw : isW (nmS x.Op_) (fsS x) = false := by unfold isW; rw [decide_eq_false n3]; rfl
    rw [hiw, n4, if_neg (by decide), if_neg (by omega), hrow]
    rfl
  · unfold placeS
    have hnd : nmd ⟨n, x.Op_, (fsS x).map mkB, 0⟩ = false := by unfold nmd; rw [hnm]; rfl
    dsimp only
    rw [if_neg (by omega), hnd, if_neg (by simp), hrow]
  · unfold lineI at hc
    rcases List.mem_append.1 hc with hc | hc
    · exact (n2 c hc).2.1
    · split at hc
      · simp at hc
      · rename_i hne
        rcases List.mem_cons.1 hc with rfl | hc
        · decide
        · exact (join_num hfn hne).2.2 c hc
end Go.Proofs.Abs
/- Words told as words; texts of lines. -/
namespace Go.Proofs.Abs
open Go
set_option linter.unusedVariables false
set_option linter.unusedSimpArgs false
set_option maxRecDepth 100000
theorem hexD_all : ((List.range 16).all fun d => decide (hexD (chD d) = some d) && (chD d != 32 && chD d != 44 && chD d != 10 && chD d != 58)) = true := by kernel_rfl
theorem hexD_chD {d : Nat} (h : d < 16) : hexD (chD d) = some d ∧ chD d ≠ 32 ∧ chD d ≠ 44 ∧ chD d ≠ 10 ∧ chD d ≠ 58 := by
  have := List.all_eq_true.1 hexD_all d (List.mem_range.2 h)
  simp at this
  exact ⟨this.1, this.2.1.1.1, this.2.1.1.2, this.2.1.2, this.2.2⟩
def hx (n : Nat) : Nat := n / 16
theorem dg_step (k n L : Nat) (acc : Bs) : dg 16 (k + 1) n (L + 1) acc = dg 16 k (hx n) L (chD (n % 16) :: acc) := by
  show (if 0 < n ∨ 0 < L + 1 then _ else _) = _
  rw [if_pos (by omega)]; rfl
def hexW (n : Nat) : Bs := dg 16 64 n 8 []
theorem hexW_eq {n : Nat} (h : n < 4294967296) : hexW n = [chD (hx (hx (hx (hx (hx (hx (hx n)))))) % 16), chD (hx (hx (hx (hx (hx (hx n))))) % 16), chD (hx (hx (hx (hx (hx n)))) % 16), chD (hx (hx (hx (hx n))) % 16), chD (hx (hx (hx n)) % 16), chD (hx (hx n) % 16), chD (hx n % 16), chD (n % 16)] := by
  unfold hexW
  rw [dg_step, dg_step, dg_step, dg_step, dg_step, dg_step, dg_step, dg_step]
  have : hx (hx (hx (hx (hx (hx (hx (hx n))))))) = 0 := by unfold hx; omega
  rw [this, dg_zero]
theorem hex_back {n : Nat} (h : n < 4294967296) : hexS (hexW n) = some (n : Int) := by
  rw [hexW_eq h]
  have l : ∀ m, hexD (chD (m % 16)) = some (m % 16) := fun m => (hexD_chD (Nat.mod_lt _ (by decide))).1
  unfold hexS
  refine (if_pos (by rfl)).trans ?_
  simp only [runG, hexG, l]
  congr 1
  unfold hx
  omega
theorem hexW_c {n : Nat} (h : n < 4294967296) : hexW n ≠ [] ∧ ∀ c ∈ hexW n, c ≠ 32 ∧ c ≠ 44 ∧ c ≠ 10 ∧ c ≠ 58 := by
  rw [hexW_eq h]
  refine ⟨by simp, fun c hc => ?_⟩
  have l : ∀ m, chD (m % 16) ≠ 32 ∧ chD (m % 16) ≠ 44 ∧ chD (m % 16) ≠ 10 ∧ chD (m % 16) ≠ 58 := fun m => (hexD_chD (Nat.mod_lt _ (by decide))).2
  simp only [List.mem_cons, List.not_mem_nil, or_false] at hc
  rcases hc with rfl | rfl | rfl | rfl | rfl | rfl | rfl | rfl <;> exact l _
def lineWd (n : Nat) : Bs := [87, 79, 82, 68] ++ 32 :: hexW n
theorem line_W {n : Nat} (h : n < 4294967296) : plainL (lineWd n) 0 [mkB (hexW n)] n n ∧ ∀ c ∈ lineWd n, c ≠ 10 := by
  obtain ⟨h1, h2⟩ := hexW_c h
  have hg : goodF (hexW n) = true := by
    unfold goodF
    have : (hexW n).all (fun c => c != 32 && c != 44) = true := List.all_eq_true.2 fun c hc => by have := h2 c hc; simp [this.1, this.2.1]
    rw [this]
    cases hw : hexW n with
    | nil => exact absurd hw h1
    | cons c f => rfl
  have hw : wordsS (lineWd n) = some ([87, 79, 82, 68], [hexW n]) := words_line (h := [87, 79, 82, 68]) (fs := [hexW n]) (by decide) (by rw [List.all_cons, hg]; rfl)
  refine ⟨⟨by unfold lineWd; simp, by unfold lineWd; simp, ?_, fun m => ?_, fun ls k m => ?_⟩, fun c hc => ?_⟩
  · unfold lineWd
    rw [show ([87, 79, 82, 68] : Bs) ++ 32 :: hexW n = [87, 79, 82, 68, 32] ++ hexW n by rfl, last_app h1]
    exact fun e => (h2 58 (List.mem_of_getLast? e)).2.2.2 rfl
  · unfold parseL
    rw [hw]
    dsimp only
    have hiw : isW [87, 79, 82, 68] [hexW n] = true := by unfold isW; simp
    rw [if_pos hiw, show ([hexW n] : List Bs).getD 0 [] = hexW n from rfl, hex_back h, show opS [87, 79, 82, 68] = 0 by kernel_rfl]; rfl
  · unfold placeS
    dsimp only
    rw [if_pos rfl]
  · unfold lineWd at hc
    rcases List.mem_append.1 hc with hc | hc
    · simp at hc; rcases hc with rfl | rfl | rfl | rfl <;> decide
    · rcases List.mem_cons.1 hc with rfl | hc
      · decide
      · exact (h2 c hc).2.2.1
/-- lines, each with its end -/
def flat (L : List Bs) : Bs := (L.map (· ++ [10])).flatten
theorem flat_app (a b : List Bs) : flat (a ++ b) = flat a ++ flat b := by unfold flat; rw [List.map_append, List.flatten_append]
theorem cuts_flat : ∀ {L : List Bs}, (∀ l ∈ L, ∀ c ∈ l, c ≠ 10) → cuts 10 (flat L) = L ++ [[]]
  | [], _ => rfl
  | l :: L, h => by
    have : flat (l :: L) = l ++ 10 :: flat L := by unfold flat; simp
    rw [this, cuts_app (h l (List.mem_cons_self ..)), cuts_flat fun l hl => h l (List.mem_cons_of_mem _ hl)]; rfl
/-- a line that comes to a word -/
def comesTo (s : Bs) (v : Int) : Prop := (∃ op fs w, plainL s op fs w v) ∧ ∀ c ∈ s, c ≠ 10
theorem plains_of {f : Int → Bs} : ∀ {xs : List Int}, (∀ x ∈ xs, comesTo (f x) x) → ∃ r, Plains (xs.map f) r xs
  | [], _ => ⟨[], .nil⟩
  | x :: xs, h => by
    obtain ⟨⟨op, fs, w, hp⟩, _⟩ := h x (List.mem_cons_self ..)
    obtain ⟨r, hr⟩ := plains_of (f := f) (xs := xs) fun y hy => h y (List.mem_cons_of_mem _ hy)
    exact ⟨_, .cons hp hr⟩
theorem asm_back {f : Int → Bs} {xs : List Int} (h : ∀ x ∈ xs, comesTo (f x) x) (hn : xs.length ≤ 4000) : asmS (flat (xs.map f)) = (xs, [], 0, 0) := by
  obtain ⟨r, hr⟩ := plains_of h
  have hc := cuts_flat (L := xs.map f) (fun l hl => by obtain ⟨x, hx, rfl⟩ := List.mem_map.1 hl; exact (h x hx).2)
  have e1 : asmL [] [] 0 (xs.map f ++ [[]]) = .inl (rowsAt 0 r, []) := by
    rw [asmL_app [[]] _ _ _ _ _ _ (plains_L hr [] [] 0 (by simp; omega)), List.nil_append]; rfl
  unfold asmS
  rw [hc, if_neg (by simp; omega), e1]
  dsimp only
  rw [plains_W hr]; rfl
end Go.Proofs.Abs
/- What asm.Source writes. -/
namespace Go.Proofs.Abs
open Go Go.Proofs
set_option linter.unusedVariables false
set_option linter.unusedSimpArgs false
set_option maxRecDepth 100000
theorem z_digits : Z.word_digits = word_digits := rfl
theorem z_shape : Z.instr_Shape = instr_Shape := rfl
theorem z_check : Z.instr_Check = instr_Check := rfl
theorem z_encode : Z.instr_Encode = instr_Encode := rfl
theorem z_text : Z.word_Text = word_Text := rfl
theorem hex_T {n : Nat} (h : n < 4294967296) : Z.word_Hex (n : Int) = some (mkB (hexW n)) := by
  unfold Z.word_Hex
  rw [z_digits, wrap_u64 _ (by omega) (by omega)]
  have := digits_eq (b := 16) (M := 8) (p2 := 8) (by decide) (by decide) (by decide) (by decide) (n := n) (by omega)
  have : word_digits (n : Int) 16 8 = some (mkB (hexW n)) := this
  rw [this, bind1_some]
theorem shape256 : ((List.range 256).all fun n => match instr_Shape (n : Int) with | some s => decide (s = -1 ∨ 1 ≤ n ∧ n ≤ 34 ∧ 0 ≤ s ∧ s ≤ 8) | none => false) = true := by kernel_rfl
theorem shape_some {op : Int} (h0 : 0 ≤ op) (h1 : op < 256) : ∃ s, instr_Shape op = some s ∧ (s = -1 ∨ 1 ≤ op ∧ op ≤ 34 ∧ 0 ≤ s ∧ s ≤ 8) := by
  have := List.all_eq_true.1 shape256 op.toNat (List.mem_range.2 (by omega))
  rw [show ((op.toNat : Nat) : Int) = op by omega] at this
  cases hs : instr_Shape op with
  | none => rw [hs] at this; cases this
  | some s =>
    rw [hs] at this
    simp only [decide_eq_true_eq] at this
    exact ⟨s, rfl, by omega⟩
/-- a decoded instruction is one that the word comes from -/
def goodD (x : Int) (j : T_instr_Instr) : Prop := 1 ≤ j.Op_ ∧ j.Op_ ≤ 34 ∧ okX j ∧ woP (shS j.Op_) j.Op_ j.A_ j.B_ j.C_ j.Imm_ = x
theorem dec_j3 (x : Int) (j : T_instr_Instr) (h0 : 0 ≤ j.Op_) (h1 : j.Op_ < 256) : ∃ y c, Z.instr_Decode_j3 x j = some (y, c) ∧ (c = 0 → goodD x y) ∧ (c ≠ 0 → y = ⟨0, 0, 0, 0, 0⟩) := by
  obtain ⟨op, a, b, c, n⟩ := j
  obtain ⟨s, hs, h⟩ := shape_some h0 h1
  dsimp only at *
  unfold Z.instr_Decode_j3
  rw [z_encode]
  have bad : ∀ e : Int, e ≠ 0 → instr_Encode ⟨op, a, b, c, n⟩ = some (0, e) → ∃ (y : T_instr_Instr) (c' : Int), bind2 (instr_Encode ⟨op, a, b, c, n⟩) (fun r9 r10 => if ((r10 != 0) || (r9 != x)) = true then (some ((T_instr_Instr.mk 0 0 0 0 0), 21)) else (some ((⟨op, a, b, c, n⟩ : T_instr_Instr), 0))) = some (y, c') ∧ (c' = 0 → goodD x y) ∧ (c' ≠ 0 → y = ⟨0, 0, 0, 0, 0⟩) := fun e he h => by
    rw [h, bind2_some, if_pos (by simp [he])]
    exact ⟨_, _, rfl, (fun h => by cases h), fun _ => rfl⟩
  rcases h with h | ⟨o1, o2, s0, s8⟩
  · refine bad 21 (by decide) ?_
    unfold instr_Encode instr_Check
    dsimp only
    rw [hs, bind1_some, if_pos (by simp; omega), bind1_some, if_pos (by decide)]
  · have hsh : s = shS op := by have := (shape_eq (op := op) (by omega) o2).1; rw [hs] at this; exact Option.some.inj this
    have hck := instr_Check_eq (a := a) (b := b) (c := c) (n := n) hs s0 s8
    by_cases ok : okI s a b c n
    · rw [if_pos ok] at hck
      rw [penc hs s0 s8 (by omega) (by omega) ok, bind2_some]
      by_cases hx : woP s op a b c n = x
      · rw [if_neg (by simp [hx])]
        refine ⟨_, _, rfl, fun _ => ⟨o1, o2, ?_, ?_⟩, fun h => absurd rfl h⟩
        · unfold okX; dsimp only; rw [← hsh]; exact ok
        · dsimp only; rw [← hsh]; exact hx
      · rw [if_pos (by simp [hx])]
        exact ⟨_, _, rfl, (fun h => by cases h), fun _ => rfl⟩
    · rw [if_neg ok] at hck
      refine bad 20 (by decide) ?_
      unfold instr_Encode
      rw [hck, bind1_some, if_pos (by decide)]
def decP (x : Int) (q : Option (T_instr_Instr × Int)) : Prop := ∃ y c, q = some (y, c) ∧ (c = 0 → goodD x y) ∧ (c ≠ 0 → y = ⟨0, 0, 0, 0, 0⟩)
theorem decP_ite {x : Int} {c : Prop} [Decidable c] {a b : Option (T_instr_Instr × Int)} (ha : decP x a) (hb : decP x b) : decP x (if c then a else b) := by
  by_cases h : c
  · rw [if_pos h]; exact ha
  · rw [if_neg h]; exact hb
theorem sx16 (x : Int) : ∃ v, Z.word_Sext x 16 = some v := ⟨_, rfl⟩
theorem sx24 (x : Int) : ∃ v, Z.word_Sext x 24 = some v := ⟨_, rfl⟩
theorem dec_T {x : Int} (h0 : 0 ≤ x) (h1 : x ≤ 4294967295) : ∃ y c, Z.instr_Decode x = some (y, c) ∧ (c = 0 → goodD x y) ∧ (c ≠ 0 → y = ⟨0, 0, 0, 0, 0⟩) := by
  have ho : IntKind.wrap .i64 (Int.fdiv x (2 ^ 24)) = x / 16777216 := by
    rw [show ((2 : Int) ^ 24) = 16777216 by decide, Int.fdiv_eq_ediv_of_nonneg x (by decide), wrap_i64 _ (by omega) (by omega)]
  have b0 : 0 ≤ x / 16777216 := by omega
  have b1 : x / 16777216 < 256 := by omega
  obtain ⟨s, hs, _⟩ := shape_some b0 b1
  obtain ⟨v16, e16⟩ := sx16 x
  obtain ⟨v24, e24⟩ := sx24 x
  have D := fun (a b c n : Int) => dec_j3 x ⟨x / 16777216, a, b, c, n⟩ b0 b1
  unfold Z.instr_Decode
  rw [ho, z_shape, hs, bind1_some]
  unfold Z.instr_Decode_j1 Z.instr_Decode_j2 Z.instr_Decode_j4
  dsimp only
  rw [e16, e24, bind1_some, bind1_some]
  show decP x _
  repeat' (first | exact D _ _ _ _ | apply decP_ite)
theorem name_all : ((List.range 34).all fun i => match Z.instr_Name ((i : Nat) + 1 : Int) with | some s => decide (bs s = nmS ((i : Nat) + 1 : Int)) | none => false) = true := by kernel_rfl
theorem name_T {op : Int} (h0 : 1 ≤ op) (h1 : op ≤ 34) : Z.instr_Name op = some (mkB (nmS op)) := by
  have := List.all_eq_true.1 name_all (op.toNat - 1) (List.mem_range.2 (by omega))
  rw [show ((op.toNat - 1 : Nat) : Int) + 1 = op by omega] at this
  cases hs : Z.instr_Name op with
  | none => rw [hs] at this; cases this
  | some s =>
    rw [hs] at this
    simp only [decide_eq_true_eq] at this
    rw [← this]
    exact congrArg some (mk_bs s)
theorem rS {n : Int} (h1 : -2147483648 ≤ n) (h2 : n ≤ 2147483647) : sCat (ByteArray.mk #[114]) (mkB (decS n)) = some (mkB (114 :: decS n)) := by
  have := dec_len (n := n) (by omega) (by omega)
  have e : (ByteArray.mk #[114]) = mkB [114] := rfl
  rw [e, sCat_some (by rw [bs_mk, bs_mk]; simp; omega)]; rfl
theorem fields_T {j : T_instr_Instr} (o1 : 1 ≤ j.Op_) (o2 : j.Op_ ≤ 34) (hk : okX j) : Z.instr_fields j = some ((fsS j).map mkB) := by
  have hsm := okX_small hk
  obtain ⟨op, a, b, c, n⟩ := j
  have o1 : 1 ≤ op := o1
  have o2 : op ≤ 34 := o2
  have ha : -2147483648 ≤ a ∧ a ≤ 2147483647 := hsm 1
  have hb : -2147483648 ≤ b ∧ b ≤ 2147483647 := hsm 2
  have hc : -2147483648 ≤ c ∧ c ≤ 2147483647 := hsm 3
  have hn : -2147483648 ≤ n ∧ n ≤ 2147483647 := hsm 4
  have t : ∀ v : Int, -2147483648 ≤ v ∧ v ≤ 2147483647 → Z.word_Text v = some (mkB (decS v)) := fun v hv => by rw [z_text]; exact word_Text_eq (by omega) (by omega)
  have hsh := (shape_eq (op := op) (by omega) o2).1
  have hr := shS_r o1 o2
  unfold Z.instr_fields Z.instr_fields_j1
  dsimp only at *
  rw [t a ha, bind1_some, rS ha.1 ha.2, bind1_some, t b hb, bind1_some, rS hb.1 hb.2, bind1_some, t c hc, bind1_some, rS hc.1 hc.2, bind1_some, t n hn, bind1_some, z_shape, hsh]
  unfold fsS
  by_cases h26 : op = 26
  · subst h26
    rw [if_pos (by decide), bind1_some, bind1_some]
    rfl
  · rw [if_neg (by simpa using h26), bind1_some]
    dsimp only
    have k2 : fldS op 2 b = 114 :: decS b := if_neg (by omega)
    have k1 : fldS op 1 a = 114 :: decS a := if_neg (by omega)
    have k3 : fldS op 3 c = 114 :: decS c := if_neg (by omega)
    have k4 : fldS op 4 n = decS n := if_pos (.inl rfl)
    rcases sh9 hr.1 hr.2 with h | h | h | h | h | h | h | h | h <;> rw [h]
    · rfl
    · show some _ = some [mkB (fldS op 1 a), mkB (fldS op 4 n)]
      rw [k1, k4]
    · show some _ = some [mkB (fldS op 1 a), mkB (fldS op 4 n)]
      rw [k1, k4]
    · show some _ = some [mkB (fldS op 1 a), mkB (fldS op 2 b), mkB (fldS op 4 n)]
      rw [k1, k2, k4]
    · show some _ = some [mkB (fldS op 1 a), mkB (fldS op 2 b), mkB (fldS op 4 n)]
      rw [k1, k2, k4]
    · show some _ = some [mkB (fldS op 1 a), mkB (fldS op 2 b), mkB (fldS op 3 c)]
      rw [k1, k2, k3]
    · show some _ = some [mkB (fldS op 1 a)]
      rw [k1]
    · show some _ = some [mkB (fldS op 4 n)]
      rw [k4]
    · show some _ = some [mkB (fldS op 4 n)]
      rw [k4]
end Go.Proofs.Abs
/- asm.Source's text is the lines of its words; AsmJoins' law. -/
namespace Go.Proofs.Abs
open Go Go.Proofs
set_option linter.unusedVariables false
set_option linter.unusedSimpArgs false
set_option maxRecDepth 100000
def tailF (r : List Bs) : Bs := (r.map fun f => 44 :: 32 :: f).flatten
theorem join_tail : ∀ (f : Bs) (r : List Bs), joinF (f :: r) = f ++ tailF r
  | f, [] => by unfold tailF joinF; simp
  | f, g :: r => by
    show f ++ 44 :: 32 :: joinF (g :: r) = _
    rw [join_tail g r]
    unfold tailF; simp
theorem text_loop (fs : List Bs) (hl : fs.length ≤ 4) (hf : ∀ f ∈ fs, f.length ≤ 100) : ∀ (r : List Bs) (i : Nat) (acc : Bs), 0 < i → fs.drop i = r → i ≤ fs.length → acc.length ≤ 1000 * i + 1000 → loopO (fun (x : (ByteArray × Int)) => Z.instr_Text_L1 (fs.map mkB) x.1 x.2) (mkB acc, (i : Int)) = some (mkB (acc ++ tailF r))
  | [], i, acc, h0, hd, hi, ha => by
    have : i = fs.length := by have := congrArg List.length hd; simp at this; omega
    subst this
    refine loopO_out ?_
    unfold Z.instr_Text_L1
    dsimp only
    rw [if_neg (by simp)]
    simp [tailF]
  | f :: r, i, acc, h0, hd, hi, ha => by
    have hx : fs[i]? = some f := by have := congrArg (·[0]?) hd; simpa using this
    have hd2 : fs.drop (i + 1) = r := by rw [← List.drop_drop, hd]; rfl
    have hlt := len_of hx
    have hfl := hf f (List.mem_of_getElem? hx)
    have step : Z.instr_Text_L1 (fs.map mkB) (mkB acc) (i : Int) = some (.inl (mkB (acc ++ 44 :: 32 :: f), ((i + 1 : Nat) : Int))) := by
      have e44 : (ByteArray.mk #[44]) = mkB [44] := rfl
      have e32 : (ByteArray.mk #[32]) = mkB [32] := rfl
      unfold Z.instr_Text_L1 Z.instr_Text_j2
      rw [if_pos (by simp; omega), gi_nat (by rw [List.getElem?_map, hx]; rfl), bind1_some, if_pos (by simp; omega), e44, sCat_some (by rw [bs_mk, bs_mk]; simp; omega), bind1_some, e32, sCat_some (by rw [bs_mk, bs_mk]; simp; omega), bind1_some, sCat_some (by simp only [bs_mk]; simp; omega), bind1_some, wr64 i (by omega)]
      simp [bs_mk]
    rw [loopO_go (s' := (mkB (acc ++ 44 :: 32 :: f), ((i + 1 : Nat) : Int))) step, text_loop fs hl hf r (i + 1) (acc ++ 44 :: 32 :: f) (by omega) hd2 (by omega) (by simp; omega)]
    congr 2
    unfold tailF; simp
theorem fs_len {j : T_instr_Instr} (o1 : 1 ≤ j.Op_) (o2 : j.Op_ ≤ 34) (hk : okX j) : (fsS j).length ≤ 4 ∧ ∀ f ∈ fsS j, f.length ≤ 100 := by
  have hr := shS_r o1 o2
  constructor
  · unfold fsS
    rw [List.length_map]
    rcases sh9 hr.1 hr.2 with h | h | h | h | h | h | h | h | h <;> rw [h] <;> decide
  · intro f hf
    unfold fsS at hf
    obtain ⟨k, _, rfl⟩ := List.mem_map.1 hf
    have := okX_small hk k
    have := dec_len (n := fget j k) (by omega) (by omega)
    unfold fldS
    split
    · omega
    · simp; omega
theorem nm_len : ((List.range 34).all fun i => decide ((nmS ((i : Nat) + 1 : Int)).length ≤ 10)) = true := by kernel_rfl
theorem nm_le {op : Int} (h0 : 1 ≤ op) (h1 : op ≤ 34) : (nmS op).length ≤ 10 := by
  have := List.all_eq_true.1 nm_len (op.toNat - 1) (List.mem_range.2 (by omega))
  rw [show ((op.toNat - 1 : Nat) : Int) + 1 = op by omega] at this
  simpa using this
theorem text_T {j : T_instr_Instr} (o1 : 1 ≤ j.Op_) (o2 : j.Op_ ≤ 34) (hk : okX j) : Z.instr_Text j = some (mkB (lineI j), 0) := by
  have hsh := (shape_eq (op := j.Op_) (by omega) o2).1
  have hr := shS_r o1 o2
  have hck : instr_Check j = some 0 := (instr_Check_eq (a := j.A_) (b := j.B_) (c := j.C_) (n := j.Imm_) hsh hr.1 hr.2).trans (by unfold okX at hk; rw [if_pos hk])
  obtain ⟨l1, l2⟩ := fs_len o1 o2 hk
  have hnl := nm_le o1 o2
  have ht := fields_T o1 o2 hk
  unfold Z.instr_Text
  rw [z_check, hck, bind1_some, if_neg (by decide), name_T o1 o2, bind1_some, ht, bind1_some]
  have hl : loopO (fun (x : (ByteArray × Int)) => Z.instr_Text_L1 ((fsS j).map mkB) x.1 x.2) (mkB (nmS j.Op_), 0) = some (mkB (lineI j)) := by
    unfold lineI
    cases hf : fsS j with
    | nil =>
      refine loopO_out ?_
      unfold Z.instr_Text_L1
      dsimp only
      rw [if_neg (by simp)]; simp
    | cons f r =>
      rw [hf] at l1 l2
      have hfl := l2 f (List.mem_cons_self ..)
      have step : Z.instr_Text_L1 ((f :: r).map mkB) (mkB (nmS j.Op_)) 0 = some (.inl (mkB (nmS j.Op_ ++ 32 :: f), 1)) := by
        have e32 : (ByteArray.mk #[32]) = mkB [32] := rfl
        unfold Z.instr_Text_L1 Z.instr_Text_j2
        rw [if_pos (by simp), show gi ((f :: r).map mkB) 0 = some (mkB f) from rfl, bind1_some, if_neg (by decide), e32, sCat_some (by rw [bs_mk, bs_mk]; simp; omega), bind1_some, sCat_some (by simp only [bs_mk]; simp; omega), bind1_some]
        rfl
      have := text_loop (f :: r) l1 l2 r 1 (nmS j.Op_ ++ 32 :: f) (by decide) rfl (by simp) (by simp; omega)
      have : loopO (fun (x : (ByteArray × Int)) => Z.instr_Text_L1 ((f :: r).map mkB) x.1 x.2) (mkB (nmS j.Op_ ++ 32 :: f), 1) = _ := this
      rw [loopO_go (s' := (mkB (nmS j.Op_ ++ 32 :: f), 1)) step, this, if_neg (by simp), join_tail]
      simp
  rw [hl, bind1_some]
/-- the line that a word is told by -/
noncomputable def lnT (x : Int) : Bs := if (decT x).2 = 0 then lineI (decT x).1 else lineWd x.toNat
theorem lineI_len {j : T_instr_Instr} (o1 : 1 ≤ j.Op_) (o2 : j.Op_ ≤ 34) (hk : okX j) : (lineI j).length ≤ 1000 := by
  obtain ⟨l1, l2⟩ := fs_len o1 o2 hk
  have hnl := nm_le o1 o2
  have tl : ∀ r : List Bs, (∀ f ∈ r, f.length ≤ 100) → (tailF r).length ≤ 102 * r.length := by
    intro r
    induction r with
    | nil => intro _; simp [tailF]
    | cons f r ih =>
      intro h
      have := ih fun g hg => h g (List.mem_cons_of_mem _ hg)
      have := h f (List.mem_cons_self ..)
      unfold tailF at *
      simp only [List.map_cons, List.flatten_cons, List.length_append, List.length_cons]
      omega
  unfold lineI
  split
  · simp; omega
  · cases hf : fsS j with
    | nil => contradiction
    | cons f r =>
      rw [hf] at l1 l2
      have a := l2 f (List.mem_cons_self ..)
      have b := tl r fun g hg => l2 g (List.mem_cons_of_mem _ hg)
      rw [join_tail]
      simp only [List.length_append, List.length_cons] at *
      omega
theorem dec_at {x : Int} (h0 : 0 ≤ x) (h1 : x ≤ 4294967295) : Z.instr_Decode x = some (decT x) ∧ ((decT x).2 = 0 → goodD x (decT x).1) ∧ ((decT x).2 ≠ 0 → (decT x).1 = ⟨0, 0, 0, 0, 0⟩) := by
  obtain ⟨y, c, h, hg⟩ := dec_T h0 h1
  have e : decT x = (y, c) := by unfold decT; rw [h]; rfl
  rw [e]
  exact ⟨h, hg⟩
theorem ok_T {x : Int} (h0 : 0 ≤ x) (h1 : x ≤ 4294967295) : okT x ∧ lineV hexT txtT (fun n => (decT n).2) x = mkB (lnT x ++ [10]) ∧ comesTo (lnT x) x := by
  obtain ⟨n, rfl⟩ : ∃ n : Nat, x = n := ⟨x.toNat, by omega⟩
  have hn : n < 4294967296 := by omega
  obtain ⟨d1, d2, d3⟩ := dec_at h0 h1
  have hx := hex_T hn
  have hxe : hexT (n : Int) = mkB (hexW n) := by unfold hexT; rw [hx]; rfl
  have hwl : (hexW n).length = 8 := by rw [hexW_eq hn]; rfl
  by_cases hc : (decT (n : Int)).2 = 0
  · obtain ⟨o1, o2, hk, hw⟩ := d2 hc
    have ht := text_T o1 o2 hk
    have hte : txtT (n : Int) = mkB (lineI (decT (n : Int)).1) := by unfold txtT; rw [ht]; rfl
    have hl := lineI_len o1 o2 hk
    refine ⟨⟨⟨_, hx⟩, by rw [hxe, size_mk]; omega, ⟨_, d1⟩, fun _ => ⟨_, ht⟩, by rw [hte, size_mk]; exact hl⟩, ?_, ?_⟩
    · unfold lineV lnT
      rw [if_pos hc, if_pos hc, hte]
      rfl
    · unfold lnT
      rw [if_pos hc]
      have := line_I o1 o2 hk
      rw [hw] at this
      exact ⟨⟨_, _, _, this.1⟩, this.2⟩
  · have ht : txtT (n : Int) = .empty := by
      unfold txtT
      rw [d3 hc]
      have : Z.instr_Text ⟨0, 0, 0, 0, 0⟩ = some (.empty, 21) := by kernel_rfl
      rw [this]; rfl
    refine ⟨⟨⟨_, hx⟩, by rw [hxe, size_mk]; omega, ⟨_, d1⟩, fun h => absurd h hc, by rw [ht]; decide⟩, ?_, ?_⟩
    · unfold lineV lnT
      rw [if_neg hc, if_neg hc, hxe, Int.toNat_natCast]
      rfl
    · unfold lnT
      rw [if_neg hc, Int.toNat_natCast]
      have := line_W hn
      exact ⟨⟨_, _, _, this.1⟩, this.2⟩
theorem source_T {xs : List Int} (hx : ∀ x ∈ xs, 0 ≤ x ∧ x ≤ 4294967295) (hn : xs.length ≤ 100000) : sourceC xs = some (mkB (flat (xs.map lnT))) := by
  unfold sourceC
  rw [if_pos ⟨hn, fun x h => (ok_T (hx x h).1 (hx x h).2).1⟩]
  have : linesV hexT txtT (fun n => (decT n).2) xs = flat (xs.map lnT) := by
    unfold linesV flat
    rw [List.map_map]
    congr 1
    refine List.map_congr_left fun x h => ?_
    rw [(ok_T (hx x h).1 (hx x h).2).2.1]; rfl
  rw [this]; rfl
theorem lines_T {xs : List Int} (hx : ∀ x ∈ xs, 0 ≤ x ∧ x ≤ 4294967295) : ∀ x ∈ xs, comesTo (lnT x) x := fun x h => (ok_T (hx x h).1 (hx x h).2).2.2
theorem lnT_len {x : Int} (h0 : 0 ≤ x) (h1 : x ≤ 4294967295) : (lnT x).length ≤ 1000 := by
  obtain ⟨d1, d2, d3⟩ := dec_at h0 h1
  unfold lnT
  split
  · rename_i hc
    obtain ⟨o1, o2, hk, hw⟩ := d2 hc
    exact lineI_len o1 o2 hk
  · have : (hexW x.toNat).length = 8 := by rw [hexW_eq (by omega)]; rfl
    unfold lineWd
    simp only [List.length_append, List.length_cons, List.length_nil, this]; omega
theorem flat_len {xs : List Int} (hx : ∀ x ∈ xs, 0 ≤ x ∧ x ≤ 4294967295) : (flat (xs.map lnT)).length ≤ 1001 * xs.length := by
  induction xs with
  | nil => simp [flat]
  | cons x xs ih =>
    have a := ih fun y hy => hx y (List.mem_cons_of_mem _ hy)
    have b := hx x (List.mem_cons_self ..)
    have c := lnT_len b.1 b.2
    have : flat ((x :: xs).map lnT) = lnT x ++ 10 :: flat (xs.map lnT) := by unfold flat; simp
    rw [this, List.length_append, List.length_cons, List.length_cons]; omega
end Go.Proofs.Abs
/- What a word is, reckoned: the document's decoding without its loop. -/
namespace Go.Proofs.Abs
open Go
set_option linter.unusedVariables false
set_option linter.unusedSimpArgs false
theorem power_spec (n : Nat) (hn : n ≤ 32) : ref01_Power (n : Int) = some (2 ^ n) := by
  have go : ∀ (k : Nat) (a j : Int), j + k = n → 0 ≤ j → 0 ≤ a → a * 2 ^ k ≤ 4294967296 → loopO (fun (x : Int × Int) => ref01_Power_L1 (n : Int) x.1 x.2) (a, j) = some (a * 2 ^ k) := by
    intro k
    induction k with
    | zero =>
      intro a j h1 h2 h3 h4
      obtain rfl : j = n := by omega
      refine loopO_out ?_
      show ref01_Power_L1 (n : Int) a n = _
      unfold ref01_Power_L1; rw [if_neg (by simp)]; simp
    | succ k ih =>
      intro a j h1 h2 h3 h4
      have e : a * 2 ^ (k + 1) = a * 2 * 2 ^ k := by rw [Int.pow_succ, Int.mul_comm (2 ^ k) 2, ← Int.mul_assoc]
      have p : (1 : Int) ≤ 2 ^ k := Int.pow_pos (by decide)
      have le : a * 2 ≤ 4294967296 := by
        rw [e] at h4
        have := Int.mul_le_mul_of_nonneg_left p (show 0 ≤ a * 2 by omega)
        omega
      rw [loopO_go (f := fun (x : Int × Int) => ref01_Power_L1 (n : Int) x.1 x.2) (s' := (a * 2, j + 1))]
      · rw [ih (a * 2) (j + 1) (by omega) (by omega) (by omega) (by rw [← e]; exact h4), e]
      · show ref01_Power_L1 (n : Int) a j = _
        unfold ref01_Power_L1
        rw [if_pos (by simp; omega), wrap_i64 _ (by omega) (by omega), wrap_i64 _ (by omega) (by omega)]
  unfold ref01_Power
  have p : (2 : Int) ^ n ≤ 4294967296 := by
    have : (2 : Nat) ^ n ≤ 2 ^ 32 := Nat.pow_le_pow_right (by decide) hn
    have e : ((2 : Int) ^ n) = ((2 ^ n : Nat) : Int) := by simp
    rw [e]; exact Int.ofNat_le.2 this
  have := go n 1 0 (by omega) (by omega) (by omega) (by rw [Int.one_mul]; exact p)
  rw [this]; simp [bind1_some]
noncomputable def sextC (w k : Int) : Option Int := bind1 (remI .i64 (IntKind.wrap .i64 w) (2 ^ k.toNat)) fun v4 =>
  if (decide (v4 ≥ (IntKind.wrap .i64 (Int.tdiv (2 ^ k.toNat) 2)))) = true then (ref01_Sext_j1 (IntKind.wrap .i64 (v4 - 2 ^ k.toNat)))
  else (ref01_Sext_j1 v4)
theorem sext_eq (w : Int) (k : Nat) (h0 : 1 ≤ k) (hk : k ≤ 32) : ref01_Sext w k = sextC w k := by
  unfold ref01_Sext
  rw [if_neg (by simp; omega)]
  have : (if (32 : Int) < k then (32 : Int) else k) = k := by rw [if_neg (by omega)]
  rw [this, power_spec k hk, bind1_some]; rfl
theorem sext16 (w : Int) : ref01_Sext w 16 = sextC w 16 := sext_eq w 16 (by decide) (by decide)
theorem sext24 (w : Int) : ref01_Sext w 24 = sextC w 24 := sext_eq w 24 (by decide) (by decide)
noncomputable def decC_j5 (p0 : Int) (j15 : T_ref02_Instr) : Option (T_ref02_Instr × Int) :=
  bind2 (ref02_Encode j15) fun r17 r18 =>
  if ((r18 != 0) || (r17 != p0)) = true then (some ((T_ref02_Instr.mk 0 0 0 0 0), 21))
  else (some (j15, 0))
noncomputable def decC_j6 (p0 : Int) (j11 : T_ref02_Instr) (r1 : Int) (j23 : Bool) : Option (T_ref02_Instr × Int) :=
  if j23 = true then (decC_j5 p0 (T_ref02_Instr.mk j11.Op_ j11.A_ j11.B_ j11.C_ (IntKind.wrap .i64 (Int.tmod p0 65536))))
  else (if (r1 == 7) = true then (bind1 (sextC p0 24) fun r25 =>
  decC_j5 p0 (T_ref02_Instr.mk j11.Op_ j11.A_ j11.B_ j11.C_ (IntKind.wrap .i64 r25)))
  else (decC_j5 p0 j11))
noncomputable def decC_j4 (p0 : Int) (j11 : T_ref02_Instr) (r1 : Int) (j13 : Bool) : Option (T_ref02_Instr × Int) :=
  if j13 = true then (bind1 (sextC p0 16) fun r21 =>
  decC_j5 p0 (T_ref02_Instr.mk j11.Op_ j11.A_ j11.B_ j11.C_ (IntKind.wrap .i64 r21)))
  else (if (r1 == 2) = true then (decC_j6 p0 j11 r1 (r1 == 2))
  else (if (r1 == 4) = true then (decC_j6 p0 j11 r1 (r1 == 4))
  else (decC_j6 p0 j11 r1 (r1 == 8))))
noncomputable def decC_j3 (r1 : Int) (p0 : Int) (j11 : T_ref02_Instr) : Option (T_ref02_Instr × Int) :=
  if (r1 == 1) = true then (decC_j4 p0 j11 r1 (r1 == 1))
  else (decC_j4 p0 j11 r1 (r1 == 3))
noncomputable def decC_j2 (r5 : Bool) (r1 : Int) (p0 : Int) (j9 : T_ref02_Instr) : Option (T_ref02_Instr × Int) :=
  if r5 = true then (decC_j3 r1 p0 (T_ref02_Instr.mk j9.Op_ j9.A_ j9.B_ (IntKind.wrap .i64 (Int.tmod p0 16)) j9.Imm_))
  else (decC_j3 r1 p0 j9)
noncomputable def decC_j1 (r4 : Bool) (r5 : Bool) (r1 : Int) (p0 : Int) (j7 : T_ref02_Instr) : Option (T_ref02_Instr × Int) :=
  if r4 = true then (decC_j2 r5 r1 p0 (T_ref02_Instr.mk j7.Op_ j7.A_ (IntKind.wrap .i64 (Int.tmod (IntKind.wrap .u32 (Int.tdiv p0 65536)) 16)) j7.C_ j7.Imm_))
  else (decC_j2 r5 r1 p0 j7)
noncomputable def decC  (p0 : Int) : Option (T_ref02_Instr × Int) :=
  bind1 (ref02_Shape (IntKind.wrap .i64 (IntKind.wrap .u32 (Int.tdiv p0 16777216)))) fun r1 =>
  bind3 (ref02_has r1) fun r3 r4 r5 =>
  if r3 = true then (decC_j1 r4 r5 r1 p0 (T_ref02_Instr.mk (IntKind.wrap .i64 (IntKind.wrap .u32 (Int.tdiv p0 16777216))) (IntKind.wrap .i64 (Int.tmod (IntKind.wrap .u32 (Int.tdiv p0 1048576)) 16)) 0 0 0))
  else (decC_j1 r4 r5 r1 p0 (T_ref02_Instr.mk (IntKind.wrap .i64 (IntKind.wrap .u32 (Int.tdiv p0 16777216))) 0 0 0 0))
theorem decC_j5_eq (p0 : Int) (j15 : T_ref02_Instr) : ref02_Decode_j5 p0 j15 = decC_j5 p0 j15 := by
  unfold ref02_Decode_j5 decC_j5
  simp only [sext16, sext24]
theorem decC_j6_eq (p0 : Int) (j11 : T_ref02_Instr) (r1 : Int) (j23 : Bool) : ref02_Decode_j6 p0 j11 r1 j23 = decC_j6 p0 j11 r1 j23 := by
  unfold ref02_Decode_j6 decC_j6
  simp only [sext16, sext24, decC_j5_eq]
theorem decC_j4_eq (p0 : Int) (j11 : T_ref02_Instr) (r1 : Int) (j13 : Bool) : ref02_Decode_j4 p0 j11 r1 j13 = decC_j4 p0 j11 r1 j13 := by
  unfold ref02_Decode_j4 decC_j4
  simp only [sext16, sext24, decC_j5_eq, decC_j6_eq]
theorem decC_j3_eq (r1 : Int) (p0 : Int) (j11 : T_ref02_Instr) : ref02_Decode_j3 r1 p0 j11 = decC_j3 r1 p0 j11 := by
  unfold ref02_Decode_j3 decC_j3
  simp only [sext16, sext24, decC_j5_eq, decC_j6_eq, decC_j4_eq]
theorem decC_j2_eq (r5 : Bool) (r1 : Int) (p0 : Int) (j9 : T_ref02_Instr) : ref02_Decode_j2 r5 r1 p0 j9 = decC_j2 r5 r1 p0 j9 := by
  unfold ref02_Decode_j2 decC_j2
  simp only [sext16, sext24, decC_j5_eq, decC_j6_eq, decC_j4_eq, decC_j3_eq]
theorem decC_j1_eq (r4 : Bool) (r5 : Bool) (r1 : Int) (p0 : Int) (j7 : T_ref02_Instr) : ref02_Decode_j1 r4 r5 r1 p0 j7 = decC_j1 r4 r5 r1 p0 j7 := by
  unfold ref02_Decode_j1 decC_j1
  simp only [sext16, sext24, decC_j5_eq, decC_j6_eq, decC_j4_eq, decC_j3_eq, decC_j2_eq]
theorem decC_eq (p0 : Int) : ref02_Decode p0 = decC p0 := by
  unfold ref02_Decode decC
  simp only [sext16, sext24, decC_j5_eq, decC_j6_eq, decC_j4_eq, decC_j3_eq, decC_j2_eq, decC_j1_eq]
end Go.Proofs.Abs
/- Both decoders decode alike. -/
namespace Go.Proofs.Abs
open Go Go.Proofs
set_option linter.unusedVariables false
set_option linter.unusedSimpArgs false
set_option maxRecDepth 100000
def sg16 (w : Int) : Int := (w % 65536 + 32768) % 65536 - 32768
def sg24 (w : Int) : Int := (w % 16777216 + 8388608) % 16777216 - 8388608
def imV (x sh : Int) : Int := if sh = 1 ∨ sh = 3 then sg16 x else if sh = 2 ∨ sh = 4 ∨ sh = 8 then x % 65536 else if sh = 7 then sg24 x else 0
def dvP (x sh : Int) : T_instr_Instr := ⟨x / 16777216, if sh = 7 then 0 else x / 1048576 % 16, if sh = 7 then 0 else x / 65536 % 16, if sh = 5 then x % 16 else 0, imV x sh⟩
def dvR (x sh : Int) : T_instr_Instr := ⟨x / 16777216, if 1 ≤ sh ∧ sh ≤ 6 then x / 1048576 % 16 else 0, if 3 ≤ sh ∧ sh ≤ 5 then x / 65536 % 16 else 0, if sh = 5 then x % 16 else 0, imV x sh⟩
section
variable {x : Int}
theorem sx_val (w0 : 0 ≤ x) (w1 : x ≤ 4294967295) : Z.word_Sext x 16 = some (sg16 x) ∧ Z.word_Sext x 24 = some (sg24 x) := by
  have g : ∀ k : Int, k = 16 ∨ k = 8 → bind1 (shlI .u32 x k) (fun v2 => bind1 (shrI .i32 (IntKind.wrap .i32 v2) k) fun v4 => some v4) = some (if k = 16 then sg16 x else sg24 x) := by
    rintro k (rfl | rfl)
    · have e1 : shlI .u32 x 16 = some (IntKind.wrap .u32 (x * 65536)) := by unfold shlI; rfl
      have e2 : ∀ v : Int, shrI .i32 v 16 = some (v / 65536) := fun v => by
        unfold shrI
        rw [if_neg (by decide)]
        congr 1
        show Int.fdiv v 65536 = _
        rw [Int.fdiv_eq_ediv_of_nonneg _ (by decide)]
      rw [e1, bind1_some, e2, bind1_some, if_pos rfl, wrap_mod, wrap_i32_mod]
      unfold sg16
      congr 1; omega
    · have e1 : shlI .u32 x 8 = some (IntKind.wrap .u32 (x * 256)) := by unfold shlI; rfl
      have e2 : ∀ v : Int, shrI .i32 v 8 = some (v / 256) := fun v => by
        unfold shrI
        rw [if_neg (by decide)]
        congr 1
        show Int.fdiv v 256 = _
        rw [Int.fdiv_eq_ediv_of_nonneg _ (by decide)]
      rw [e1, bind1_some, e2, bind1_some, if_neg (by decide), wrap_mod, wrap_i32_mod]
      unfold sg24
      congr 1; omega
  have k1 : IntKind.wrap .i64 (32 - (if (32 : Int) < 16 then 32 else 16)) = 16 := by kernel_rfl
  have k2 : IntKind.wrap .i64 (32 - (if (32 : Int) < 24 then 32 else 24)) = 8 := by kernel_rfl
  constructor
  · unfold Z.word_Sext
    rw [if_neg (by decide), k1]
    exact g 16 (.inl rfl)
  · unfold Z.word_Sext
    rw [if_neg (by decide), k2]
    exact g 8 (.inr rfl)
theorem u_round32 {y : Int} (h0 : 0 ≤ y) (h1 : y ≤ 2147483647) : ref01_Round y = some y := by
  unfold ref01_Round ref01_Round_j1 ref01_Round_j2
  have e : Int.tmod y 4294967296 = y := by rw [tmod_pos (by omega)]; omega
  rw [e, if_neg (by simp; omega), if_neg (by simp; omega), wrap_i32 _ (by omega) (by omega)]
theorem n_round32 {y : Int} (h0 : -2147483648 ≤ y) (h1 : y < 0) : ref01_Round y = some y := by
  unfold ref01_Round ref01_Round_j1 ref01_Round_j2
  have e : Int.tmod y 4294967296 = y := by
    have : Int.tmod (-y) 4294967296 = -y := by rw [tmod_pos (by omega)]; omega
    rw [Int.neg_tmod] at this; omega
  rw [e, if_pos (by simp; omega), wrap_i64 _ (by omega) (by omega), if_pos (by simp; omega), wrap_i64 _ (by omega) (by omega), wrap_i32 _ (by omega) (by omega)]
  congr 1; omega
theorem rsx_val (w0 : 0 ≤ x) (w1 : x ≤ 4294967295) : sextC x 16 = some (sg16 x) ∧ sextC x 24 = some (sg24 x) := by
  constructor
  · unfold sextC
    have e : (2 : Int) ^ (16 : Int).toNat = 65536 := by decide
    have r : remI .i64 (IntKind.wrap .i64 x) 65536 = some (x % 65536) := by
      unfold remI
      rw [if_neg (by decide), wrap_i64 x (by omega) (by omega), tmod_pos w0]
    have t : IntKind.wrap .i64 (Int.tdiv 65536 2) = 32768 := by kernel_rfl
    rw [e, r, bind1_some, t]
    unfold ref01_Sext_j1 sg16
    by_cases c : x % 65536 ≥ 32768
    · rw [if_pos (by simpa using c), wrap_i64 _ (by omega) (by omega), n_round32 (by omega) (by omega), bind1_some]
      congr 1; omega
    · rw [if_neg (by simpa using c), u_round32 (by omega) (by omega), bind1_some]
      congr 1; omega
  · unfold sextC
    have e : (2 : Int) ^ (24 : Int).toNat = 16777216 := by decide
    have r : remI .i64 (IntKind.wrap .i64 x) 16777216 = some (x % 16777216) := by
      unfold remI
      rw [if_neg (by decide), wrap_i64 x (by omega) (by omega), tmod_pos w0]
    have t : IntKind.wrap .i64 (Int.tdiv 16777216 2) = 8388608 := by kernel_rfl
    rw [e, r, bind1_some, t]
    unfold ref01_Sext_j1 sg24
    by_cases c : x % 16777216 ≥ 8388608
    · rw [if_pos (by simpa using c), wrap_i64 _ (by omega) (by omega), n_round32 (by omega) (by omega), bind1_some]
      congr 1; omega
    · rw [if_neg (by simpa using c), u_round32 (by omega) (by omega), bind1_some]
      congr 1; omega
end
/-- what the two come to, at their candidates -/
theorem pj3 {x : Int} {j : T_instr_Instr} (h0 : 0 ≤ j.Op_) (h1 : j.Op_ < 256) : (goodD x j → Z.instr_Decode_j3 x j = some (j, 0)) ∧ (¬ goodD x j → ∃ c, c ≠ 0 ∧ Z.instr_Decode_j3 x j = some (⟨0, 0, 0, 0, 0⟩, c)) := by
  obtain ⟨y, c, h, g, z⟩ := dec_j3 x j h0 h1
  constructor
  · rintro ⟨o1, o2, hk, hw⟩
    have hsh := (shape_eq (op := j.Op_) (by omega) o2).1
    have hr := shS_r o1 o2
    unfold Z.instr_Decode_j3
    have pe := penc (op := j.Op_) (a := j.A_) (b := j.B_) (c := j.C_) (n := j.Imm_) hsh hr.1 hr.2 (by omega) (by omega) hk
    have pe : instr_Encode j = _ := pe
    rw [z_encode, pe, bind2_some, if_neg (by simp [hw])]
  · intro ng
    by_cases hc : c = 0
    · have hg := g hc
      have : y = j := by
        unfold Z.instr_Decode_j3 at h
        cases he : Z.instr_Encode j with
        | none => rw [he] at h; cases h
        | some q =>
          rw [he] at h
          have h : (if ((q.2 != 0) || (q.1 != x)) = true then (some ((T_instr_Instr.mk 0 0 0 0 0), (21 : Int))) else (some (j, 0))) = some (y, c) := h
          split at h
          · cases h; cases hc
          · cases h; rfl
      rw [this] at hg
      exact absurd hg ng
    · exact ⟨c, hc, by rw [h, z hc]⟩
theorem rshape256 : ((List.range 256).all fun n => decide (ref02_Shape (n : Int) = instr_Shape (n : Int))) = true := by kernel_rfl
theorem rshape {op : Int} (h0 : 0 ≤ op) (h1 : op < 256) : ref02_Shape op = instr_Shape op := by
  have := List.all_eq_true.1 rshape256 op.toNat (List.mem_range.2 (by omega))
  rw [show ((op.toNat : Nat) : Int) = op by omega] at this
  simpa using this
theorem rj5 {x : Int} {j : T_instr_Instr} (h0 : 0 ≤ j.Op_) (h1 : j.Op_ < 256) : (goodD x j → decC_j5 x (ri j) = some (ri j, 0)) ∧ (¬ goodD x j → ∃ y c, c ≠ 0 ∧ decC_j5 x (ri j) = some (y, c)) := by
  obtain ⟨op, a, b, c, n⟩ := j
  obtain ⟨s, hs, h⟩ := shape_some h0 h1
  dsimp only at *
  unfold decC_j5 ri
  dsimp only
  constructor
  · rintro ⟨o1, o2, hk, hw⟩
    have hsh := (shape_eq (op := op) (by have : 1 ≤ op := o1; omega) o2).2
    have hr := shS_r (op := op) o1 o2
    have pe := renc (op := op) (a := a) (b := b) (c := c) (n := n) hsh hr.1 hr.2 (by omega) (by have : op ≤ 34 := o2; omega) hk
    have hw : woP (shS op) op a b c n = x := hw
    rw [pe, bind2_some, if_neg (by simp [hw])]
  · intro ng
    have hrs : ref02_Shape op = some s := (rshape h0 h1).trans hs
    have bad : ∀ e : Int, e ≠ 0 → ref02_Encode ⟨op, a, b, c, n⟩ = some (0, e) → ∃ (y : T_ref02_Instr) (c' : Int), c' ≠ 0 ∧ bind2 (ref02_Encode ⟨op, a, b, c, n⟩) (fun r9 r10 => if ((r10 != 0) || (r9 != x)) = true then (some ((T_ref02_Instr.mk 0 0 0 0 0), 21)) else (some ((⟨op, a, b, c, n⟩ : T_ref02_Instr), 0))) = some (y, c') := fun e he h => by
      rw [h, bind2_some, if_pos (by simp [he])]
      exact ⟨_, _, by decide, rfl⟩
    rcases h with h | ⟨o1, o2, s0, s8⟩
    · refine bad 21 (by decide) ?_
      unfold ref02_Encode ref02_Check
      dsimp only
      rw [hrs, bind1_some, if_pos (by simp; omega), bind1_some, if_pos (by decide)]
    · have hsh : s = shS op := by have := (shape_eq (op := op) (by omega) o2).1; rw [hs] at this; exact Option.some.inj this
      have hck := ref02_Check_eq (a := a) (b := b) (c := c) (n := n) hrs s0 s8
      by_cases ok : okI s a b c n
      · rw [renc hrs s0 s8 (by omega) (by omega) ok, bind2_some]
        have hx : woP s op a b c n ≠ x := fun hx => ng ⟨o1, o2, by unfold okX; dsimp only; rw [← hsh]; exact ok, by dsimp only; rw [← hsh]; exact hx⟩
        rw [if_pos (by simp [hx])]
        exact ⟨_, _, by decide, rfl⟩
      · rw [if_neg ok] at hck
        refine bad 20 (by decide) ?_
        unfold ref02_Encode
        rw [hck, bind1_some, if_pos (by decide)]
/-- the two candidates -/
theorem cand {x : Int} (w0 : 0 ≤ x) (w1 : x ≤ 4294967295) {sh : Int} (hs : instr_Shape (x / 16777216) = some sh) : (goodD x (dvP x sh) ↔ goodD x (dvR x sh)) ∧ (goodD x (dvP x sh) → dvP x sh = dvR x sh) := by
  have key : ∀ j : T_instr_Instr, j.Op_ = x / 16777216 → goodD x j → j = dvP x sh ∧ j = dvR x sh := by
    rintro ⟨op, a, b, c, n⟩ e ⟨o1, o2, ⟨ra, rb, rc, ri, rk⟩, hw⟩
    dsimp only at *
    have hr := shS_r o1 o2
    have hsh : shS op = sh := by have := (shape_eq (op := op) (by omega) o2).1; rw [e, hs] at this; rw [e]; exact (Option.some.inj this).symm
    rw [hsh] at ri rk hw hr
    unfold imP at ri
    unfold ckP at rk
    unfold woP at hw
    unfold dvP dvR imV sg16 sg24
    simp only [T_instr_Instr.mk.injEq]
    rcases sh9 hr.1 hr.2 with h | h | h | h | h | h | h | h | h <;> subst h <;> simp at ri rk hw ⊢ <;> omega
  have e1 : (dvP x sh).Op_ = x / 16777216 := rfl
  have e2 : (dvR x sh).Op_ = x / 16777216 := rfl
  refine ⟨⟨fun h => ?_, fun h => ?_⟩, fun h => (key _ e1 h).2⟩
  · rw [← (key _ e1 h).2]; exact h
  · rw [← (key _ e2 h).1]; exact h
end Go.Proofs.Abs
/- The document's source text is the program's. -/
namespace Go.Proofs.Abs
open Go Go.Proofs
set_option linter.unusedVariables false
set_option linter.unusedSimpArgs false
set_option maxRecDepth 100000
section
variable {x : Int}
theorem zdec (w0 : 0 ≤ x) (w1 : x ≤ 4294967295) {sh : Int} (hs : instr_Shape (x / 16777216) = some sh) (hr : sh = -1 ∨ 0 ≤ sh ∧ sh ≤ 8) : Z.instr_Decode x = Z.instr_Decode_j3 x (dvP x sh) := by
  have fd : ∀ k : Nat, k = 24 ∨ k = 20 ∨ k = 16 → Int.fdiv x (2 ^ k) = x / 2 ^ k := fun k hk => Int.fdiv_eq_ediv_of_nonneg _ (by rcases hk with rfl | rfl | rfl <;> decide)
  have p24 : (2 : Int) ^ 24 = 16777216 := by decide
  have p20 : (2 : Int) ^ 20 = 1048576 := by decide
  have p16 : (2 : Int) ^ 16 = 65536 := by decide
  have and15 : ∀ a : Int, 0 ≤ a → a < 4294967296 → bitsOf .and .u32 a 15 = a % 16 := fun a h0 h1 => and_low 4 a h0 h1 (by decide)
  have e1 : IntKind.wrap .i64 (Int.fdiv x (2 ^ 24)) = x / 16777216 := by rw [fd 24 (by simp), p24, wrap_i64 _ (by omega) (by omega)]
  have e2 : IntKind.wrap .i64 (bitsOf .and .u32 (Int.fdiv x (2 ^ 20)) 15) = x / 1048576 % 16 := by rw [fd 20 (by simp), p20, and15 _ (by omega) (by omega), wrap_i64 _ (by omega) (by omega)]
  have e3 : IntKind.wrap .i64 (bitsOf .and .u32 (Int.fdiv x (2 ^ 16)) 15) = x / 65536 % 16 := by rw [fd 16 (by simp), p16, and15 _ (by omega) (by omega), wrap_i64 _ (by omega) (by omega)]
  have e4 : IntKind.wrap .i64 (bitsOf .and .u32 x 15) = x % 16 := by rw [and15 _ w0 (by omega), wrap_i64 _ (by omega) (by omega)]
  have e5 : IntKind.wrap .i64 (bitsOf .and .u32 x 65535) = x % 65536 := by rw [and_16 x w0 (by omega), wrap_i64 _ (by omega) (by omega)]
  obtain ⟨x1, x2⟩ := sx_val w0 w1
  have e6 : IntKind.wrap .i64 (sg16 x) = sg16 x := wrap_i64 _ (by unfold sg16; omega) (by unfold sg16; omega)
  have e7 : IntKind.wrap .i64 (sg24 x) = sg24 x := wrap_i64 _ (by unfold sg24; omega) (by unfold sg24; omega)
  unfold Z.instr_Decode
  rw [e1, e2, e3, z_shape, hs, bind1_some]
  have hc : sh = -1 ∨ sh = 0 ∨ sh = 1 ∨ sh = 2 ∨ sh = 3 ∨ sh = 4 ∨ sh = 5 ∨ sh = 6 ∨ sh = 7 ∨ sh = 8 := by omega
  rcases hc with rfl | rfl | rfl | rfl | rfl | rfl | rfl | rfl | rfl | rfl
  all_goals
    simp only [Z.instr_Decode_j1, Z.instr_Decode_j2, Z.instr_Decode_j4, x1, x2, bind1_some, e4, e5, e6, e7]
    rfl
theorem rdecE (w0 : 0 ≤ x) (w1 : x ≤ 4294967295) {sh : Int} (hs : instr_Shape (x / 16777216) = some sh) (hr : sh = -1 ∨ 0 ≤ sh ∧ sh ≤ 8) : ref02_Decode x = decC_j5 x (ri (dvR x sh)) := by
  have hrs : ref02_Shape (x / 16777216) = some sh := (rshape (by omega) (by omega)).trans hs
  have e1 : IntKind.wrap .i64 (IntKind.wrap .u32 (Int.tdiv x 16777216)) = x / 16777216 := by rw [tdiv_pos w0, wrap_u32 _ (by omega) (by omega), wrap_i64 _ (by omega) (by omega)]
  have e2 : IntKind.wrap .i64 (Int.tmod (IntKind.wrap .u32 (Int.tdiv x 1048576)) 16) = x / 1048576 % 16 := by rw [tdiv_pos w0, wrap_u32 _ (by omega) (by omega), tmod_pos (by omega), wrap_i64 _ (by omega) (by omega)]
  have e3 : IntKind.wrap .i64 (Int.tmod (IntKind.wrap .u32 (Int.tdiv x 65536)) 16) = x / 65536 % 16 := by rw [tdiv_pos w0, wrap_u32 _ (by omega) (by omega), tmod_pos (by omega), wrap_i64 _ (by omega) (by omega)]
  have e4 : IntKind.wrap .i64 (Int.tmod x 16) = x % 16 := by rw [tmod_pos w0, wrap_i64 _ (by omega) (by omega)]
  have e5 : IntKind.wrap .i64 (Int.tmod x 65536) = x % 65536 := by rw [tmod_pos w0, wrap_i64 _ (by omega) (by omega)]
  obtain ⟨x1, x2⟩ := rsx_val w0 w1
  have e6 : IntKind.wrap .i64 (sg16 x) = sg16 x := wrap_i64 _ (by unfold sg16; omega) (by unfold sg16; omega)
  have e7 : IntKind.wrap .i64 (sg24 x) = sg24 x := wrap_i64 _ (by unfold sg24; omega) (by unfold sg24; omega)
  rw [decC_eq]
  unfold decC
  rw [e1, e2, hrs, bind1_some]
  unfold ref02_has
  rw [bind3_some]
  have hc : sh = -1 ∨ sh = 0 ∨ sh = 1 ∨ sh = 2 ∨ sh = 3 ∨ sh = 4 ∨ sh = 5 ∨ sh = 6 ∨ sh = 7 ∨ sh = 8 := by omega
  rcases hc with rfl | rfl | rfl | rfl | rfl | rfl | rfl | rfl | rfl | rfl
  all_goals
    simp only [decC_j1, decC_j2, decC_j3, decC_j4, decC_j6, x1, x2, bind1_some, e3, e4, e5, e6, e7]
    rfl
theorem dec_same (w0 : 0 ≤ x) (w1 : x ≤ 4294967295) : ∃ y c, ref02_Decode x = some (y, c) ∧ ((decT x).2 = 0 → c = 0 ∧ y = ri (decT x).1) ∧ ((decT x).2 ≠ 0 → c ≠ 0) := by
  have b0 : 0 ≤ x / 16777216 := by omega
  have b1 : x / 16777216 < 256 := by omega
  obtain ⟨s, hs, h⟩ := shape_some b0 b1
  have hr : s = -1 ∨ 0 ≤ s ∧ s ≤ 8 := by omega
  obtain ⟨c1, c2⟩ := cand w0 w1 hs
  obtain ⟨p1, p2⟩ := pj3 (x := x) (j := dvP x s) b0 b1
  obtain ⟨r1, r2⟩ := rj5 (x := x) (j := dvR x s) b0 b1
  have hd : decT x = (Z.instr_Decode_j3 x (dvP x s)).getD default := by unfold decT; rw [zdec w0 w1 hs hr]
  rw [rdecE w0 w1 hs hr]
  by_cases g : goodD x (dvP x s)
  · have e : decT x = (dvP x s, 0) := by rw [hd, p1 g]; rfl
    refine ⟨_, _, r1 (c1.1 g), fun _ => ⟨rfl, ?_⟩, fun h => absurd (by rw [e]) h⟩
    rw [e, c2 g]
  · obtain ⟨c, hc, hp⟩ := p2 g
    obtain ⟨y, c', hc', hr'⟩ := r2 (fun h => g (c1.2 h))
    have e : decT x = (⟨0, 0, 0, 0, 0⟩, c) := by rw [hd, hp]; rfl
    exact ⟨y, c', hr', fun h => absurd (by rw [e] at h; exact h) hc, fun _ => hc'⟩
end
theorem hexcut_all : ((List.range 16).all fun d => match sCut (ByteArray.mk #[48, 49, 50, 51, 52, 53, 54, 55, 56, 57, 97, 98, 99, 100, 101, 102]) ((d : Nat) : Int) (((d : Nat) : Int) + 1) with | some s => decide (bs s = [chD d]) | none => false) = true := by kernel_rfl
theorem hexcut {d : Nat} (h : d < 16) : sCut (ByteArray.mk #[48, 49, 50, 51, 52, 53, 54, 55, 56, 57, 97, 98, 99, 100, 101, 102]) (d : Int) ((d : Int) + 1) = some (mkB [chD d]) := by
  have := List.all_eq_true.1 hexcut_all d (List.mem_range.2 h)
  cases hs : sCut (ByteArray.mk #[48, 49, 50, 51, 52, 53, 54, 55, 56, 57, 97, 98, 99, 100, 101, 102]) (d : Int) ((d : Int) + 1) with
  | none => rw [hs] at this; cases this
  | some s =>
    rw [hs] at this
    simp only [decide_eq_true_eq] at this
    rw [← this]; exact congrArg some (mk_bs s).symm
theorem hex_step {n : Nat} (h : n < 4294967296) (acc : Bs) (ha : acc.length ≤ 100) {i : Int} (h0 : 0 ≤ i) (hi : i < 8) : loopO (fun (x : (Int × ByteArray × Int)) => ref01_Hex_L1 x.1 x.2.1 x.2.2) ((n : Int), mkB acc, i) = loopO (fun (x : (Int × ByteArray × Int)) => ref01_Hex_L1 x.1 x.2.1 x.2.2) ((hx n : Nat), mkB (chD (n % 16) :: acc), i + 1) := by
  have step : ref01_Hex_L1 (n : Int) (mkB acc) i = some (.inl (((hx n : Nat) : Int), mkB (chD (n % 16) :: acc), i + 1)) := by
    unfold ref01_Hex_L1
    rw [if_pos (by simpa using hi), tmod_pos (by omega), show (n : Int) % 16 = ((n % 16 : Nat) : Int) by omega, wrap_u32 _ (by omega) (by omega), hexcut (Nat.mod_lt _ (by decide)), bind1_some, sCat_some (by rw [bs_mk, bs_mk]; simp; omega), bind1_some, tdiv_pos (by omega), wrap_u32 _ (by omega) (by omega), wrap_i64 _ (by omega) (by omega), show (n : Int) / 16 = ((hx n : Nat) : Int) by unfold hx; omega]
    rfl
  exact loopO_go step
theorem rhex {n : Nat} (h : n < 4294967296) : ref01_Hex (n : Int) = some (mkB (hexW n)) := by
  have l : ∀ m, m < 4294967296 → hx m < 4294967296 := fun m hm => by unfold hx; omega
  have h1 := l n h
  have h2 := l _ h1
  have h3 := l _ h2
  have h4 := l _ h3
  have h5 := l _ h4
  have h6 := l _ h5
  have h7 := l _ h6
  unfold ref01_Hex
  have e0 : ByteArray.empty = mkB [] := rfl
  rw [e0, hex_step h [] (by simp) (by decide) (by decide), hex_step h1 _ (by simp) (by decide) (by decide), hex_step h2 _ (by simp) (by decide) (by decide), hex_step h3 _ (by simp) (by decide) (by decide), hex_step h4 _ (by simp) (by decide) (by decide), hex_step h5 _ (by simp) (by decide) (by decide), hex_step h6 _ (by simp) (by decide) (by decide), hex_step h7 _ (by simp) (by decide) (by decide)]
  rw [loopO_out (by unfold ref01_Hex_L1; dsimp only; exact if_neg (by simp)), bind1_some, hexW_eq h]
end Go.Proofs.Abs
/- The document's text of an instruction; its source text. -/
namespace Go.Proofs.Abs
open Go Go.Proofs
set_option linter.unusedVariables false
set_option linter.unusedSimpArgs false
set_option maxRecDepth 100000
theorem nm_at {op : Int} (h0 : 1 ≤ op) (h1 : op ≤ 34) : ref02_Name op = some (mkB (nmS op)) := by
  have hl : opNames.length = 34 := rfl
  have g := List.getElem?_eq_getElem (l := opNames) (i := op.toNat - 1) (by omega)
  have := ref02_Name_eq g
  rw [show (((op.toNat - 1 : Nat) : Int) + 1) = op by omega] at this
  rw [this]
  unfold nmS
  rw [List.getD_eq_getElem?_getD, g]; rfl
theorem rfields {j : T_instr_Instr} (o1 : 1 ≤ j.Op_) (o2 : j.Op_ ≤ 34) (hk : okX j) : ref02_Fields (ri j) = some ((fsS j).map mkB) := by
  have hsm := okX_small hk
  obtain ⟨op, a, b, c, n⟩ := j
  have o1 : 1 ≤ op := o1
  have o2 : op ≤ 34 := o2
  have ha : -2147483648 ≤ a ∧ a ≤ 2147483647 := hsm 1
  have hb : -2147483648 ≤ b ∧ b ≤ 2147483647 := hsm 2
  have hc : -2147483648 ≤ c ∧ c ≤ 2147483647 := hsm 3
  have hn : -2147483648 ≤ n ∧ n ≤ 2147483647 := hsm 4
  have t : ∀ v : Int, -2147483648 ≤ v ∧ v ≤ 2147483647 → ref01_Text v = some (mkB (decS v)) := fun v hv => ref01_Text_eq (by omega) (by omega)
  have hsh := (shape_eq (op := op) (by omega) o2).2
  have hr := shS_r o1 o2
  unfold ref02_Fields ref02_has ri
  dsimp only at *
  rw [hsh, bind1_some, bind3_some]
  unfold ref02_Fields_j1 ref02_Fields_j5 ref02_Fields_j2 ref02_Fields_j3 ref02_Fields_j4
  dsimp only
  simp only [t a ha, t b hb, t c hc, t n hn, rS ha.1 ha.2, rS hb.1 hb.2, rS hc.1 hc.2, bind1_some, hsh]
  unfold fsS
  have k1 : fldS op 1 a = 114 :: decS a := if_neg (by omega)
  have k3 : fldS op 3 c = 114 :: decS c := if_neg (by omega)
  have k4 : fldS op 4 n = decS n := if_pos (.inl rfl)
  have k2 : fldS op 2 b = if op = 26 then decS b else 114 :: decS b := by unfold fldS; by_cases h : op = 26 <;> simp [h]
  have h26 : op = 26 → shS op = 4 := fun h => by rw [h]; rfl
  dsimp only
  rcases sh9 hr.1 hr.2 with h | h | h | h | h | h | h | h | h <;> rw [h] at h26 ⊢
  · rfl
  · show _ = some [mkB (fldS op 1 a), mkB (fldS op 4 n)]
    rw [k1, k4]; rfl
  · show _ = some [mkB (fldS op 1 a), mkB (fldS op 4 n)]
    rw [k1, k4]; rfl
  · show _ = some [mkB (fldS op 1 a), mkB (fldS op 2 b), mkB (fldS op 4 n)]
    have n26 : op ≠ 26 := fun e => by have := h26 e; omega
    rw [k1, k2, k4, if_neg n26]
    have hb26 : (op == 26) = false := by simpa using n26
    simp only [hb26]; rfl
  · show _ = some [mkB (fldS op 1 a), mkB (fldS op 2 b), mkB (fldS op 4 n)]
    rw [k1, k2, k4]
    by_cases e : op = 26
    · subst e; rfl
    · have hb26 : (op == 26) = false := by simpa using e
      rw [if_neg e]
      simp only [hb26]; rfl
  · show _ = some [mkB (fldS op 1 a), mkB (fldS op 2 b), mkB (fldS op 3 c)]
    have n26 : op ≠ 26 := fun e => by have := h26 e; omega
    rw [k1, k2, k3, if_neg n26]
    have hb26 : (op == 26) = false := by simpa using n26
    simp only [hb26]; rfl
  · show _ = some [mkB (fldS op 1 a)]
    rw [k1]; rfl
  · show _ = some [mkB (fldS op 4 n)]
    rw [k4]; rfl
  · show _ = some [mkB (fldS op 4 n)]
    rw [k4]; rfl
theorem rtext_loop (fs : List Bs) (hl : fs.length ≤ 4) (hf : ∀ f ∈ fs, f.length ≤ 100) : ∀ (r : List Bs) (i : Nat) (acc : Bs), 0 < i → fs.drop i = r → i ≤ fs.length → acc.length ≤ 1000 * i + 1000 → loopO (fun (x : (ByteArray × Int)) => ref02_Text_L1 (fs.map mkB) x.1 x.2) (mkB acc, (i : Int)) = some (mkB (acc ++ tailF r))
  | [], i, acc, h0, hd, hi, ha => by
    have : i = fs.length := by have := congrArg List.length hd; simp at this; omega
    subst this
    refine loopO_out ?_
    unfold ref02_Text_L1
    dsimp only
    rw [if_neg (by simp)]
    simp [tailF]
  | f :: r, i, acc, h0, hd, hi, ha => by
    have hx : fs[i]? = some f := by have := congrArg (·[0]?) hd; simpa using this
    have hd2 : fs.drop (i + 1) = r := by rw [← List.drop_drop, hd]; rfl
    have hlt := len_of hx
    have hfl := hf f (List.mem_of_getElem? hx)
    have step : ref02_Text_L1 (fs.map mkB) (mkB acc) (i : Int) = some (.inl (mkB (acc ++ 44 :: 32 :: f), ((i + 1 : Nat) : Int))) := by
      have e44 : (ByteArray.mk #[44]) = mkB [44] := rfl
      have e32 : (ByteArray.mk #[32]) = mkB [32] := rfl
      unfold ref02_Text_L1 ref02_Text_j2
      rw [if_pos (by simp; omega), if_pos (by simp; omega), e44, sCat_some (by simp only [bs_mk]; simp; omega), bind1_some, e32, sCat_some (by simp only [bs_mk]; simp; omega), bind1_some, gi_nat (by rw [List.getElem?_map, hx]; rfl), bind1_some, sCat_some (by simp only [bs_mk]; simp; omega), bind1_some, wr64 i (by omega)]
      simp [bs_mk]
    rw [loopO_go (s' := (mkB (acc ++ 44 :: 32 :: f), ((i + 1 : Nat) : Int))) step, rtext_loop fs hl hf r (i + 1) (acc ++ 44 :: 32 :: f) (by omega) hd2 (by omega) (by simp; omega)]
    congr 2
    unfold tailF; simp
theorem rtext {j : T_instr_Instr} (o1 : 1 ≤ j.Op_) (o2 : j.Op_ ≤ 34) (hk : okX j) : ref02_Text (ri j) = some (mkB (lineI j), 0) := by
  have hsh := (shape_eq (op := j.Op_) (by omega) o2).2
  have hr := shS_r o1 o2
  have hck : ref02_Check (ri j) = some 0 := (ref02_Check_eq (a := j.A_) (b := j.B_) (c := j.C_) (n := j.Imm_) hsh hr.1 hr.2).trans (by unfold okX at hk; rw [if_pos hk])
  obtain ⟨l1, l2⟩ := fs_len o1 o2 hk
  have hnl := nm_le o1 o2
  have ht := rfields o1 o2 hk
  unfold ref02_Text
  rw [hck, bind1_some, if_neg (by decide), show (ri j).Op_ = j.Op_ from rfl, nm_at o1 o2, bind1_some, ht, bind1_some]
  have hl : loopO (fun (x : (ByteArray × Int)) => ref02_Text_L1 ((fsS j).map mkB) x.1 x.2) (mkB (nmS j.Op_), 0) = some (mkB (lineI j)) := by
    unfold lineI
    cases hf : fsS j with
    | nil =>
      refine loopO_out ?_
      unfold ref02_Text_L1
      dsimp only
      rw [if_neg (by simp)]; simp
    | cons f r =>
      rw [hf] at l1 l2
      have hfl := l2 f (List.mem_cons_self ..)
      have step : ref02_Text_L1 ((f :: r).map mkB) (mkB (nmS j.Op_)) 0 = some (.inl (mkB (nmS j.Op_ ++ 32 :: f), 1)) := by
        have e32 : (ByteArray.mk #[32]) = mkB [32] := rfl
        unfold ref02_Text_L1 ref02_Text_j2
        rw [if_pos (by simp), if_neg (by decide), e32, sCat_some (by simp only [bs_mk]; simp; omega), bind1_some, show gi ((f :: r).map mkB) 0 = some (mkB f) from rfl, bind1_some, sCat_some (by simp only [bs_mk]; simp; omega), bind1_some]
        simp [bs_mk]; rfl
      have := rtext_loop (f :: r) l1 l2 r 1 (nmS j.Op_ ++ 32 :: f) (by decide) rfl (by simp) (by simp; omega)
      have : loopO (fun (x : (ByteArray × Int)) => ref02_Text_L1 ((f :: r).map mkB) x.1 x.2) (mkB (nmS j.Op_ ++ 32 :: f), 1) = _ := this
      rw [loopO_go (s' := (mkB (nmS j.Op_ ++ 32 :: f), 1)) step, this, if_neg (by simp), join_tail]
      simp
  rw [hl, bind1_some]
theorem rsource {xs : List Int} (hx : ∀ x ∈ xs, 0 ≤ x ∧ x ≤ 4294967295) (hn : xs.length ≤ 1000) : ref05_Source xs = some (mkB (flat (xs.map lnT))) := by
  have fl : ∀ (l : List Int), (∀ x ∈ l, x ∈ xs) → (flat (l.map lnT)).length ≤ 1001 * l.length := fun l hl => flat_len fun x h => hx x (hl x h)
  have go : ∀ (k i : Nat), i + k = xs.length → loopO (fun (x : (ByteArray × Int)) => ref05_Source_L1 xs x.1 x.2) (mkB (flat ((xs.take i).map lnT)), (i : Int)) = some (mkB (flat (xs.map lnT))) := by
    intro k
    induction k with
    | zero =>
      intro i h
      have : i = xs.length := by omega
      subst this
      refine loopO_out ?_
      unfold ref05_Source_L1
      dsimp only
      rw [if_neg (by simp), List.take_length]
    | succ k ih =>
      intro i h
      have hi : i < xs.length := by omega
      have g := List.getElem?_eq_getElem hi
      obtain ⟨w0, w1⟩ := hx _ (List.getElem_mem hi)
      have hf := fl (xs.take i) fun x h => List.mem_of_mem_take h
      rw [List.length_take] at hf
      have hll := lnT_len w0 w1
      have e10 : (ByteArray.mk #[10]) = mkB [10] := rfl
      have fs : flat ((xs.take (i + 1)).map lnT) = flat ((xs.take i).map lnT) ++ (lnT (xs[i]'hi) ++ [10]) := by
        rw [List.take_succ_eq_append_getElem hi, List.map_append, flat_app]; unfold flat; simp
      have step : ref05_Source_L1 xs (mkB (flat ((xs.take i).map lnT))) (i : Int) = some (.inl (mkB (flat ((xs.take (i + 1)).map lnT)), ((i + 1 : Nat) : Int))) := by
        obtain ⟨y, c, hd, hg, hb⟩ := dec_same w0 w1
        obtain ⟨d1, d2, d3⟩ := dec_at w0 w1
        unfold ref05_Source_L1 ref05_Source_j2
        rw [if_pos (by simp; omega), gi_nat g, bind1_some, hd, bind2_some, fs]
        by_cases hc : (decT (xs[i]'hi)).2 = 0
        · obtain ⟨rfl, rfl⟩ := hg hc
          obtain ⟨o1, o2, hk, _⟩ := d2 hc
          have hln : lnT (xs[i]'hi) = lineI (decT (xs[i]'hi)).1 := by unfold lnT; rw [if_pos hc]
          rw [hln] at hll ⊢
          rw [if_pos (by decide), rtext o1 o2 hk, bind2_some, sCat_some (by rw [bs_mk, bs_mk]; omega), bind1_some, e10, sCat_some (by simp only [bs_mk, List.length_append, List.length_cons, List.length_nil]; omega), bind1_some, wr64 i (by omega)]
          simp [bs_mk]
        · have hc' := hb hc
          obtain ⟨n, hn'⟩ : ∃ n : Nat, (xs[i]'hi) = n := ⟨(xs[i]'hi).toNat, by omega⟩
          have hln : lnT (xs[i]'hi) = lineWd n := by unfold lnT; rw [if_neg hc, hn', Int.toNat_natCast]
          have eW : (ByteArray.mk #[87, 79, 82, 68, 32]) = mkB [87, 79, 82, 68, 32] := rfl
          have hw8 : (hexW n).length = 8 := by rw [hexW_eq (by omega)]; rfl
          rw [if_neg (by simpa using hc'), eW, sCat_some (by simp only [bs_mk, List.length_append, List.length_cons, List.length_nil]; omega), bind1_some, bind1_some, hn', rhex (by omega), bind1_some, sCat_some (by simp only [bs_mk, List.length_append, List.length_cons, List.length_nil]; omega), bind1_some, e10, sCat_some (by simp only [bs_mk, List.length_append, List.length_cons, List.length_nil]; omega), bind1_some, wr64 i (by omega), ← hn', hln]
          unfold lineWd
          simp [bs_mk]
      rw [loopO_go (s' := (mkB (flat ((xs.take (i + 1)).map lnT)), ((i + 1 : Nat) : Int))) step]
      exact ih (i + 1) (by omega)
  unfold ref05_Source
  have := go xs.length 0 (by omega)
  have : loopO (fun (x : (ByteArray × Int)) => ref05_Source_L1 xs x.1 x.2) (ByteArray.empty, 0) = _ := this
  rw [this, bind1_some]
end Go.Proofs.Abs
/- Printed by gen (walk.py). -/
namespace Go.Proofs.Abs
open Go Go.Proofs
set_option linter.unusedVariables false
set_option maxRecDepth 100000
set_option maxHeartbeats 0
/-- the statement, in plain Lean -/
def AsmBackPure : Prop := ∀ (p0 : (List Int)), (fun xs => (∀ x, x ∈ xs → (fun n => (Lit.int .u32 n).wf = true) x) ∧ xs.length ≤ maxLen) p0 → law05_AsmBack p0 = some true
end Go.Proofs.Abs
/- Any words, written as text, are assembled again. -/
namespace Go.Proofs.Abs
open Go Go.Proofs
set_option linter.unusedVariables false
set_option linter.unusedSimpArgs false
set_option maxRecDepth 100000
theorem AsmBack_holds : AsmBackPure := by
  intro a ha
  have wa : ∀ x ∈ a, 0 ≤ x ∧ x ≤ 4294967295 := fun x h => wf_u32.1 (ha.1 x h)
  unfold law05_AsmBack
  rw [awake_ok, bind1_some, if_neg (by decide)]
  by_cases hl : a.length > 1000
  · rw [if_pos (by simp; omega)]
  have la := flat_len wa
  have hj := asm_back (f := lnT) (lines_T wa) (by omega)
  rw [if_neg (by simp; omega), source_T wa (by omega), bind1_some, asm_eq _ (by rw [size_mk]; omega), bs_mk, hj, bind3_some, rsource wa (by omega), bind1_some]
  dsimp only
  rw [if_pos (by rw [strEq_eq, decide_eq_true rfl]), if_pos (by decide), if_pos (by decide), words_same _ (by omega), bind1_some, if_pos rfl, bind1_some]
  rfl
end Go.Proofs.Abs
