/- The law TypesTells: whatever the input, it answers true. No conditions. (Part TypesTellsP of its proof.) -/
import Derived.Test.YtdfdjhimecmkfaaTypesTellsF2
set_option linter.unusedVariables false
set_option linter.unusedSimpArgs false
set_option linter.unusedSectionVars false
/- The table of types and the document's list of them: the same entries. -/
namespace Go.Proofs.Abs
open Go
set_option linter.unusedVariables false
set_option linter.unusedSimpArgs false
theorem room_big : 1048576 ≤ roomBytes := Nat.le_of_ble_eq_true (by kernel_rfl)
theorem app_some {α : Type} {zb : Nat} {xs ys : List α} (h : (xs.length + ys.length) * zb ≤ 1048576) : app zb xs ys = some (xs ++ ys) := by
  unfold app; rw [if_pos (Nat.le_trans h room_big)]
def toRF (f : T_types_Field) : T_ref09_Field := ⟨f.Name_, f.Type_, f.Offset_⟩
def toR (x : T_types_Type) : T_ref09_Type := ⟨x.Kind_, x.Len_, x.Base_, x.Size_, x.Open_, x.Fields_.map toRF⟩
def zT : T_types_Type := ⟨0, 0, 0, 0, false, []⟩
def getT (ts : List T_types_Type) (a : Int) : T_types_Type := if 0 ≤ a ∧ a < ts.length then ts.getD a.toNat zT else zT
def okT (n : Nat) (x : T_types_Type) : Prop := 0 ≤ x.Size_ ∧ x.Size_ ≤ 16384 ∧ x.Fields_.length ≤ n
def wholeT (x : T_types_Type) : Bool := (x.Kind_ != 0) && ((x.Kind_ != 4) && (!x.Open_))
/-- fields that stand one behind the other, each of a whole type -/
def Sums (ts : List T_types_Type) : Int → List T_types_Field → Int → Prop
  | a, [], e => a = e
  | a, f :: r, e => f.Offset_ = a ∧ wholeT (getT ts f.Type_) = true ∧ Sums ts (a + (getT ts f.Type_).Size_) r e
def FitE (ts : List T_types_Type) (x : T_types_Type) : Prop :=
  (x.Kind_ = 6 → Sums ts 0 x.Fields_ x.Size_) ∧ (x.Kind_ ≠ 6 → x.Fields_ = []) ∧ (x.Kind_ = 5 → wholeT (getT ts x.Base_) = true ∧ x.Size_ = x.Len_ * (getT ts x.Base_).Size_)
/-- a table that grew: what was whole is the same -/
def ExtT (ts ts' : List T_types_Type) : Prop := ∀ a, wholeT (getT ts a) = true → getT ts' a = getT ts a
structure GoodT (n : Nat) (ts : List T_types_Type) : Prop where
  len : ts.length ≤ n + 5
  el : ∀ x, x ∈ ts → okT n x
  fit : ∀ x, x ∈ ts → FitE ts x
theorem Sums.ext {ts ts' : List T_types_Type} (h : ExtT ts ts') : ∀ (l : List T_types_Field) (a e : Int), Sums ts a l e → Sums ts' a l e
  | [], _, _, q => q
  | f :: r, a, e, ⟨q1, q2, q3⟩ => ⟨q1, by rw [h _ q2]; exact q2, by rw [h _ q2]; exact Sums.ext h r _ _ q3⟩
theorem FitE.ext {ts ts' : List T_types_Type} (h : ExtT ts ts') {x : T_types_Type} (q : FitE ts x) : FitE ts' x :=
  ⟨fun k => Sums.ext h _ _ _ (q.1 k), q.2.1, fun k => by obtain ⟨q1, q2⟩ := q.2.2 k; rw [h _ q1]; exact ⟨q1, q2⟩⟩
theorem Sums.snoc {ts : List T_types_Type} (f : T_types_Field) : ∀ (l : List T_types_Field) (a : Int), Sums ts a l f.Offset_ → wholeT (getT ts f.Type_) = true → Sums ts a (l ++ [f]) (f.Offset_ + (getT ts f.Type_).Size_)
  | [], a, q, w => by obtain rfl : a = f.Offset_ := q; exact ⟨rfl, w, rfl⟩
  | g :: r, a, ⟨q1, q2, q3⟩, w => ⟨q1, q2, Sums.snoc f r _ q3 w⟩
def TabAt (H : Heap) (m : Ptr) (ts : List T_types_Type) : Prop := ∃ i, m = .at i 0 ∧ get_types_Table H i 0 = some ⟨ts⟩
theorem fld_inj (x y : T_types_Field) (h : e_types_Field x = e_types_Field y) : x = y := by
  cases x; cases y; simpa [e_types_Field] using h
theorem typ_inj (x y : T_types_Type) (h : e_types_Type x = e_types_Type y) : x = y := by
  cases x; cases y
  simp only [e_types_Type, List.cons.injEq, AV.int.injEq, AV.bool.injEq, AV.sl.injEq, true_and, and_true] at h
  obtain ⟨h1, h2, h3, h4, h5, h6⟩ := h
  rw [h1, h2, h3, h4, h5, map_inj fld_inj _ _ h6]
theorem tab_inj (x y : T_types_Table) (h : o_types_Table x = o_types_Table y) : x = y := by
  cases x; cases y
  simp only [o_types_Table, List.cons.injEq, Prod.mk.injEq, AV.sl.injEq, true_and, and_true] at h
  rw [map_inj typ_inj _ _ h]
theorem tab_len (x : T_types_Table) : (o_types_Table x).length = 1 := rfl
theorem TabAt.set {H : Heap} {i : Nat} {ts : List T_types_Type} (h : get_types_Table H i 0 = some ⟨ts⟩) (ts' : List T_types_Type) : TabAt (set_types_Table H i 0 ⟨ts'⟩) (.at i 0) ts' :=
  ⟨i, rfl, hgT_set tab_inj tab_len h _⟩
theorem getT_in {ts : List T_types_Type} {a : Int} (h0 : 0 ≤ a) (h1 : a < ts.length) : getT ts a = ts[a.toNat]'(by omega) := by
  unfold getT
  rw [if_pos ⟨h0, h1⟩, List.getD, List.getElem?_eq_getElem (by omega)]; rfl
theorem getT_out {ts : List T_types_Type} {a : Int} (h : ¬ (0 ≤ a ∧ a < ts.length)) : getT ts a = zT := if_neg h
theorem whole_in {ts : List T_types_Type} {a : Int} (h : wholeT (getT ts a) = true) : 0 ≤ a ∧ a < ts.length := by
  by_cases c : 0 ≤ a ∧ a < ts.length
  · exact c
  · rw [getT_out c] at h; exact absurd h (by decide)
theorem ext_app (ts : List T_types_Type) (x : T_types_Type) : ExtT ts (ts ++ [x]) := fun a h => by
  obtain ⟨h0, h1⟩ := whole_in h
  rw [getT_in h0 (by simp; omega), getT_in h0 h1, List.getElem_append_left]
theorem ext_set {ts : List T_types_Type} {j : Nat} (x : T_types_Type) (hj : j < ts.length) (ho : (ts[j]).Open_ = true) : ExtT ts (ts.set j x) := fun a h => by
  obtain ⟨h0, h1⟩ := whole_in h
  rw [getT_in h0 (by simp; omega), getT_in h0 h1, List.getElem_set_ne]
  rintro rfl
  rw [getT_in h0 h1] at h
  simp [wholeT, ho] at h
theorem getT_ok {n : Nat} {ts : List T_types_Type} (G : GoodT n ts) (a : Int) : okT n (getT ts a) := by
  by_cases h : 0 ≤ a ∧ a < ts.length
  · rw [getT_in h.1 h.2]; exact G.el _ (List.getElem_mem _)
  · rw [getT_out h]; exact ⟨by simp [zT], by simp [zT], by simp [zT]⟩
section
variable {n : Nat} {H : Heap} {m : Ptr} {ts : List T_types_Type} {a b : Int}
theorem tget_spec (h : TabAt H m ts) (G : GoodT n ts) (hn : n ≤ 60) (a : Int) : types_Table_Get H m a = some (getT ts a) := by
  obtain ⟨i, rfl, hg⟩ := h
  have ok := getT_ok G a
  unfold types_Table_Get
  by_cases h0 : a < 0
  · rw [if_pos (by simpa using h0), bind2_some, if_pos rfl, getT_out (by omega)]; rfl
  · rw [if_neg (by simpa using h0)]
    simp only [pbnd_at, hg, bind1_some, bind2_some]
    by_cases h1 : a < ts.length
    · rw [if_neg (by simpa using h1)]
      rw [getT_in (by omega) h1] at ok ⊢
      rw [gi_some (by omega) h1, bind1_some, app_some (by have := ok.2.2; simp; omega), bind1_some, List.nil_append]
    · rw [if_pos (by simp; omega), getT_out (by omega)]; rfl
theorem rget_spec (ts : List T_types_Type) (a : Int) : ref09_Get (ts.map toR) a = some (toR (getT ts a)) := by
  unfold ref09_Get
  by_cases h : 0 ≤ a ∧ a < ts.length
  · rw [if_neg (by simp; omega), gi_some h.1 (by simpa using h.2), bind1_some, getT_in h.1 h.2]
    simp
  · rw [if_pos (by simp; omega), getT_out h]; rfl
theorem twhole_spec (h : TabAt H m ts) (G : GoodT n ts) (hn : n ≤ 60) (a : Int) : types_Table_whole H m a = some (wholeT (getT ts a)) := by
  unfold types_Table_whole; rw [tget_spec h G hn]; rfl
theorem rwhole_spec (ts : List T_types_Type) (a : Int) : ref09_Whole (ts.map toR) a = some (wholeT (getT ts a)) := by
  unfold ref09_Whole; rw [rget_spec]; rfl
/-- a step: both tables grow alike -/
def StepT (H' : Heap) (m : Ptr) (n : Nat) (rs : List T_ref09_Type) : Prop := ∃ ts', TabAt H' m ts' ∧ GoodT (n + 1) ts' ∧ rs = ts'.map toR
theorem GoodT.up (G : GoodT n ts) : GoodT (n + 1) ts := ⟨by have := G.len; omega, fun x hx => by have := G.el x hx; exact ⟨this.1, this.2.1, by have := this.2.2; omega⟩, G.fit⟩
theorem add_spec (h : TabAt H m ts) (G : GoodT n ts) (hn : n ≤ 60) {x : T_types_Type} (hx : okT n x) (hf : FitE ts x) : ∃ H' rs', types_Table_add H m x = some (H', (ts.length : Int), 0) ∧ ref09_add (ts.map toR) (toR x) = some (rs', (ts.length : Int), 0) ∧ StepT H' m n rs' := by
  have hl := G.len
  obtain ⟨i, rfl, hg⟩ := h
  refine ⟨_, _, ?_, ?_, ts ++ [x], TabAt.set hg _, ⟨by simp; omega, fun y hy => ?_, fun y hy => ?_⟩, rfl⟩
  · unfold types_Table_add
    simp only [pbnd_at, hg, bind1_some]
    rw [if_neg (by simp; omega), app_some (by simp; omega), bind1_some, bnd_def, wrap_i64 _ (by simp <;> omega) (by simp <;> omega)]
    simp
  · unfold ref09_add
    rw [if_neg (by simp; omega), app_some (by simp; omega), bind1_some, app_some (by simp; omega), bind1_some]
    simp
  · have up : okT n y := by
      rcases List.mem_append.1 hy with h | h
      · exact G.el y h
      · obtain rfl : y = x := by simpa using h
        exact hx
    exact ⟨up.1, up.2.1, by have := up.2.2; omega⟩
  · rcases List.mem_append.1 hy with h | h
    · exact (G.fit y h).ext (ext_app ts x)
    · obtain rfl : y = x := by simpa using h
      exact hf.ext (ext_app ts y)
theorem same_step (h : TabAt H m ts) (G : GoodT n ts) : StepT H m n (ts.map toR) := ⟨ts, h, G.up, rfl⟩
theorem array_spec (h : TabAt H m ts) (G : GoodT n ts) (hn : n ≤ 60) (a b : Int) (ha : -9223372036854775808 ≤ a ∧ a ≤ 9223372036854775807) : ∃ H' rs' k e, types_Table_Array H m a b = some (H', k, e) ∧ ref09_Array (ts.map toR) a b = some (rs', k, e) ∧ StepT H' m n rs' := by
  obtain ⟨o1, o2, o3⟩ := getT_ok G b
  unfold types_Table_Array ref09_Array
  simp only [twhole_spec h G hn, rwhole_spec, bind1_some, tget_spec h G hn, rget_spec]
  cases hw : wholeT (getT ts b) with
  | false => exact ⟨_, _, _, _, rfl, rfl, same_step h G⟩
  | true =>
    simp only [Bool.not_true, Bool.false_eq_true, if_false]
    have key : ∀ c, (if (decide (a < 1)) = true then some true else if (decide (a > 16384)) = true then some true else if (decide ((getT ts b).Size_ > 0)) = true then bind1 (quoI .i64 16384 (getT ts b).Size_) fun v9 => some (decide (a > v9)) else some false) = some c →
        (if (decide (a < 1)) = true then some true else if (decide (a > 16384)) = true then some true else some (decide (IntKind.i64.wrap (a * (toR (getT ts b)).Size_) > 16384))) = some c ∧ (c = false → 0 ≤ a * (getT ts b).Size_ ∧ a * (getT ts b).Size_ ≤ 16384) := by
      intro c hc
      by_cases h1 : a < 1
      · rw [if_pos (by simpa using h1)] at hc ⊢; cases hc; exact ⟨rfl, fun h => by cases h⟩
      rw [if_neg (by simpa using h1)] at hc ⊢
      by_cases h2 : a > 16384
      · rw [if_pos (by simpa using h2)] at hc ⊢; cases hc; exact ⟨rfl, fun h => by cases h⟩
      rw [if_neg (by simpa using h2)] at hc ⊢
      obtain ⟨S, hS⟩ : ∃ S, S = (getT ts b).Size_ := ⟨_, rfl⟩
      have e : (toR (getT ts b)).Size_ = S := hS.symm
      rw [e]
      rw [← hS] at hc o1 o2 ⊢
      have p0 : 0 ≤ a * S := Int.mul_nonneg (by omega) o1
      have p1 : a * S ≤ 16384 * 16384 := Int.mul_le_mul (by omega) o2 o1 (by omega)
      rw [wrap_i64 _ (by omega) (by omega)]
      by_cases h3 : S > 0
      · have d : (0 : Int) ≤ 16384 / S := Int.ediv_nonneg (by omega) o1
        have d2 : (16384 : Int) / S ≤ 16384 := Int.ediv_le_self _ (by omega)
        rw [if_pos (by simpa using h3)] at hc
        unfold quoI at hc
        rw [if_neg (by omega), bind1_some, tdiv_pos (by omega), wrap_i64 _ (by omega) (by omega)] at hc
        have iff := Int.ediv_lt_iff_lt_mul (a := 16384) (b := a) h3
        cases hc
        have e2 : decide (a > 16384 / S) = decide (a * S > 16384) := decide_eq_decide.2 iff
        exact ⟨by rw [e2], fun h => ⟨p0, by rw [e2] at h; simp at h; omega⟩⟩
      · have : S = 0 := by omega
        subst this
        rw [if_neg (by simp)] at hc
        cases hc
        exact ⟨by simp, fun _ => by simp⟩
    obtain ⟨c, hc⟩ : ∃ c, (if (decide (a < 1)) = true then some true else if (decide (a > 16384)) = true then some true else if (decide ((getT ts b).Size_ > 0)) = true then bind1 (quoI .i64 16384 (getT ts b).Size_) fun v9 => some (decide (a > v9)) else some false) = some c := by
      split
      · exact ⟨_, rfl⟩
      split
      · exact ⟨_, rfl⟩
      split
      · rename_i h
        unfold quoI
        rw [if_neg (by simp at h; omega)]
        exact ⟨_, rfl⟩
      · exact ⟨_, rfl⟩
    obtain ⟨k1, k2⟩ := key c hc
    rw [hc, k1]
    simp only [bind1_some]
    cases c with
    | true => exact ⟨_, _, _, _, rfl, rfl, same_step h G⟩
    | false =>
      obtain ⟨q1, q2⟩ := k2 rfl
      simp only [Bool.false_eq_true, if_false]
      have e : (toR (getT ts b)).Size_ = (getT ts b).Size_ := rfl
      rw [e, wrap_i64 _ (by omega) (by omega)]
      obtain ⟨H', rs', e1, e2, st⟩ := add_spec h G hn (x := ⟨5, a, b, a * (getT ts b).Size_, false, []⟩) ⟨q1, q2, by simp⟩ ⟨fun k => absurd k (by simp), fun _ => rfl, fun _ => ⟨hw, rfl⟩⟩
      refine ⟨H', rs', ts.length, 0, ?_, ?_, st⟩
      · rw [e1]; rfl
      · have : (⟨5, a, b, a * (getT ts b).Size_, false, ([] : List T_ref09_Field)⟩ : T_ref09_Type) = toR ⟨5, a, b, a * (getT ts b).Size_, false, []⟩ := rfl
        rw [this, e2]; rfl
theorem open_spec (h : TabAt H m ts) (G : GoodT n ts) (hn : n ≤ 60) : ∃ H' rs' k e, types_Table_Open H m = some (H', k, e) ∧ ref09_Open (ts.map toR) = some (rs', k, e) ∧ StepT H' m n rs' := by
  obtain ⟨H', rs', e1, e2, st⟩ := add_spec h G hn (x := ⟨6, 0, 0, 0, true, []⟩) ⟨by simp, by simp, by simp⟩ ⟨fun _ => rfl, fun k => absurd rfl k, fun k => absurd k (by decide)⟩
  refine ⟨H', rs', ts.length, 0, ?_, ?_, st⟩
  · unfold types_Table_Open; rw [e1]; rfl
  · unfold ref09_Open
    have : (⟨6, 0, 0, 0, true, ([] : List T_ref09_Field)⟩ : T_ref09_Type) = toR ⟨6, 0, 0, 0, true, []⟩ := rfl
    rw [this, e2]; rfl
theorem set_step {H : Heap} {i : Nat} {ts : List T_types_Type} (hg : get_types_Table H i 0 = some ⟨ts⟩) (G : GoodT n ts) {x : T_types_Type} (hx : okT (n + 1) x) (hf : FitE ts x) {j : Nat} (hj : j < ts.length) (ho : (ts[j]).Open_ = true) : StepT (set_types_Table H i 0 ⟨ts.set j x⟩) (.at i 0) n ((ts.set j x).map toR) := by
  refine ⟨_, TabAt.set hg _, ⟨by have := G.len; simp; omega, fun y hy => ?_, fun y hy => ?_⟩, rfl⟩
  · rcases List.mem_or_eq_of_mem_set hy with h | h
    · exact G.up.el y h
    · rw [h]; exact hx
  · rcases List.mem_or_eq_of_mem_set hy with h | h
    · exact (G.fit y h).ext (ext_set x hj ho)
    · rw [h]; exact hf.ext (ext_set x hj ho)
theorem rput_spec (hl : ts.length ≤ 65) (h0 : 0 ≤ a) (h1 : a < ts.length) (x : T_types_Type) : ref09_put (ts.map toR) a (toR x) = some ((ts.set a.toNat x).map toR) := by
  unfold ref09_put
  rw [app_some (by simp; omega), bind1_some, List.nil_append, gi_some h0 (by simpa using h1), bind1_some, si_some h0 (by simpa using h1), bind1_some, List.map_set]
theorem getT_kind (h : (getT ts a).Kind_ ≠ 0) : 0 ≤ a ∧ a < ts.length := by
  by_cases c : 0 ≤ a ∧ a < ts.length
  · exact c
  · rw [getT_out c] at h; exact absurd rfl h
theorem close_spec (h : TabAt H m ts) (G : GoodT n ts) (hn : n ≤ 60) (a : Int) : ∃ H' rs' e, types_Table_Close H m a = some (H', e) ∧ ref09_Close (ts.map toR) a = some (rs', e) ∧ StepT H' m n rs' := by
  unfold types_Table_Close ref09_Close
  rw [tget_spec h G hn, rget_spec, bind1_some, bind1_some]
  have e : ((toR (getT ts a)).Kind_ != 6 || !(toR (getT ts a)).Open_) = ((getT ts a).Kind_ != 6 || !(getT ts a).Open_) := rfl
  rw [e]
  by_cases c : ((getT ts a).Kind_ != 6 || !(getT ts a).Open_) = true
  · rw [if_pos c, if_pos c]; exact ⟨_, _, _, rfl, rfl, same_step h G⟩
  · rw [if_neg c, if_neg c]
    have hk : (getT ts a).Kind_ = 6 := by simp at c; exact c.1
    obtain ⟨h0, h1⟩ := getT_kind (ts := ts) (a := a) (by omega)
    have ok := getT_ok G a
    have ft := G.fit _ (List.getElem_mem (l := ts) (n := a.toNat) (by omega))
    have ho : (ts[a.toNat]'(by omega)).Open_ = true := by rw [← getT_in h0 h1]; simp at c; exact c.2
    rw [← getT_in h0 h1] at ft
    obtain ⟨i, rfl, hg⟩ := h
    have hl := G.len
    obtain ⟨x, hx⟩ : ∃ x, x = getT ts a := ⟨_, rfl⟩
    have hx' : ts[a.toNat]'(by omega) = x := by rw [hx, getT_in h0 h1]
    rw [← hx] at ok ft hk ⊢
    simp only [pbnd_at, hg, bind1_some, gi_some h0 h1, hx', si_some h0 h1, bnd_def]
    have : (⟨(toR x).Kind_, (toR x).Len_, (toR x).Base_, (toR x).Size_, false, (toR x).Fields_⟩ : T_ref09_Type) = toR ⟨x.Kind_, x.Len_, x.Base_, x.Size_, false, x.Fields_⟩ := rfl
    rw [this, rput_spec (by omega) h0 h1, bind1_some]
    exact ⟨_, _, _, rfl, rfl, set_step hg G (x := ⟨x.Kind_, x.Len_, x.Base_, x.Size_, false, x.Fields_⟩) ⟨ok.1, ok.2.1, Nat.le_trans ok.2.2 (Nat.le_succ _)⟩ ⟨fun _ => ft.1 hk, fun k => absurd hk k, fun k => by rw [hk] at k; exact absurd k (by decide)⟩ (by omega) ho⟩
end
end Go.Proofs.Abs
/- Printed by gen (walk.py). -/
namespace Go.Proofs.Abs
open Go Go.Proofs
set_option linter.unusedVariables false
set_option maxRecDepth 100000
set_option maxHeartbeats 0
def wf_law09_Op (x : T_law09_Op) : Prop := (fun n => (Lit.int .i64 n).wf = true) x.Kind_ ∧ (fun n => (Lit.int .i64 n).wf = true) x.A_ ∧ (fun n => (Lit.int .i64 n).wf = true) x.B_ ∧ (fun s => s.size ≤ maxLen) x.Name_
theorem opens_law09_Op : Opens Try.prog 68 e_law09_Op wf_law09_Op := fun H enc w fuel cs x h => by
  obtain ⟨xs, n, _, _, hl, hxl, hp⟩ := DataW.trod_struct Try.underlying68 h
  have hl : cs.length = 4 := by rw [hl]; kernel_rfl
  obtain ⟨a0, w0, r0⟩ := part_of (i := 0) rfl hxl hp (opens_int Try.underlying3)
  obtain ⟨a1, w1, r1⟩ := part_of (i := 1) rfl hxl hp (opens_int Try.underlying3)
  obtain ⟨a2, w2, r2⟩ := part_of (i := 2) rfl hxl hp (opens_int Try.underlying3)
  obtain ⟨a3, w3, r3⟩ := part_of (i := 3) rfl hxl hp (opens_str Try.underlying9)
  exact ⟨⟨a0, a1, a2, a3⟩, ⟨w0, w1, w2, w3⟩, (reads_step (o := 0) (z := 1) r0 (reads_step (o := 1) (z := 1) r1 (reads_step (o := 2) (z := 1) r2 (reads_step (o := 3) (z := 1) r3 (reads_end (o := 4) (by rw [hl]; exact Nat.le_refl _))))))⟩
/-- the statement, in plain Lean -/
def TypesTellsPure : Prop := ∀ (p0 : (List T_law09_Op)) (p1 : T_law09_Op), (fun xs => (∀ x, x ∈ xs → wf_law09_Op x) ∧ xs.length ≤ maxLen) p0 → wf_law09_Op p1 → ∃ Hr, law09_TypesTells [] p0 p1 = some (Hr, true)
end Go.Proofs.Abs
/- The table of types and the document's: fields, pointers, one call. -/
namespace Go.Proofs.Abs
open Go
set_option linter.unusedVariables false
set_option linter.unusedSimpArgs false
section
variable {n : Nat} {H : Heap} {m : Ptr} {ts : List T_types_Type} {a b : Int}
theorem find_loops (x : T_types_Type) (hx : x.Fields_.length ≤ 1000) (nm : ByteArray) : ∀ (k : Nat) (j : Int), 0 ≤ j → j + k = x.Fields_.length →
    (loopO (fun (i : Int) => types_Table_Field_L1 x nm i) j = some (.inl ()) ∧ loopO (fun (i : Int) => ref09_Find_L1 (toR x) nm i) j = some (.inl ())) ∨
    (loopO (fun (i : Int) => types_Table_Field_L1 x nm i) j = some (.inr ()) ∧ ∃ f, loopO (fun (i : Int) => ref09_Find_L1 (toR x) nm i) j = some (.inr f))
  | 0, j, h0, h1 => by
    refine .inl ⟨loopO_out ?_, loopO_out ?_⟩
    · unfold types_Table_Field_L1; rw [if_neg (by simp; omega)]
    · unfold ref09_Find_L1; rw [if_neg (by simp [toR]; omega)]
  | k + 1, j, h0, h1 => by
    have hl : (toR x).Fields_.length = x.Fields_.length := by simp [toR]
    have g1 := gi_some (xs := x.Fields_) h0 (by omega)
    have g2 := gi_some (xs := (toR x).Fields_) h0 (by omega)
    have e : ((toR x).Fields_[j.toNat]'(by omega)) = toRF (x.Fields_[j.toNat]'(by omega)) := by simp [toR]
    rw [e] at g2
    have w : IntKind.i64.wrap (j + 1) = j + 1 := wrap_i64 _ (by omega) (by omega)
    have c1 : decide (j < (x.Fields_.length : Int)) = true := by simp; omega
    have c2 : decide (j < ((toR x).Fields_.length : Int)) = true := by rw [hl]; exact c1
    by_cases c : strEq (x.Fields_[j.toNat]'(by omega)).Name_ nm = true
    · refine .inr ⟨loopO_out ?_, toRF (x.Fields_[j.toNat]'(by omega)), loopO_out ?_⟩
      · unfold types_Table_Field_L1; rw [if_pos c1, g1, bind1_some, if_pos c]
      · unfold ref09_Find_L1; rw [if_pos c2, g2, bind1_some, if_pos (by exact c), bind1_some]
    · rw [loopO_go (f := fun (i : Int) => types_Table_Field_L1 x nm i) (s' := j + 1) (by show types_Table_Field_L1 x nm j = _; unfold types_Table_Field_L1; rw [if_pos c1, g1, bind1_some, if_neg c, w]),
        loopO_go (f := fun (i : Int) => ref09_Find_L1 (toR x) nm i) (s' := j + 1) (by show ref09_Find_L1 (toR x) nm j = _; unfold ref09_Find_L1; rw [if_pos c2, g2, bind1_some, if_neg (by exact c), w])]
      exact find_loops x hx nm k (j + 1) (by omega) (by omega)
theorem field_spec (h : TabAt H m ts) (G : GoodT n ts) (hn : n ≤ 60) (a : Int) (nm : ByteArray) (b : Int) : ∃ H' rs' e, types_Table_Field H m a nm b = some (H', e) ∧ ref09_AddField (ts.map toR) a nm b = some (rs', e) ∧ StepT H' m n rs' := by
  unfold types_Table_Field ref09_AddField ref09_Find
  rw [tget_spec h G hn, rget_spec, bind1_some, bind1_some, twhole_spec h G hn, rwhole_spec]
  obtain ⟨x, hx⟩ : ∃ x, x = getT ts a := ⟨_, rfl⟩
  have okx := getT_ok G a
  have oky := getT_ok G b
  rw [← hx] at okx ⊢
  have e : ((toR x).Kind_ != 6 || !(toR x).Open_) = (x.Kind_ != 6 || !x.Open_) := rfl
  rw [e]
  by_cases c : (x.Kind_ != 6 || !x.Open_) = true
  · rw [if_pos c, if_pos c]; exact ⟨_, _, _, rfl, rfl, same_step h G⟩
  rw [if_neg c, if_neg c, bind1_some, bind1_some]
  have hk : x.Kind_ = 6 := by simp at c; exact c.1
  have hk' : ((toR x).Kind_ != 6) = false := by show (x.Kind_ != 6) = false; rw [hk]; rfl
  obtain ⟨h0, h1⟩ := getT_kind (ts := ts) (a := a) (by rw [← hx]; omega)
  have ft : FitE ts x := by rw [hx, getT_in h0 h1]; exact G.fit _ (List.getElem_mem _)
  cases hw : wholeT (getT ts b) with
  | false => exact ⟨_, _, _, rfl, rfl, same_step h G⟩
  | true =>
    simp only [Bool.not_true, Bool.false_eq_true, if_false, bind1_some, hk']
    rcases find_loops x (by have := okx.2.2; omega) nm x.Fields_.length 0 (by omega) (by omega) with ⟨q1, q2⟩ | ⟨q1, f, q2⟩
    · rw [q1, q2]
      have z : ((110 : Int) == 0) = false := rfl
      simp only [bind1_some, sum2_inl, bind2_some, tget_spec h G hn, rget_spec, z, Bool.false_eq_true, if_false]
      obtain ⟨y, hy⟩ : ∃ y, y = getT ts b := ⟨_, rfl⟩
      rw [← hy] at oky hw ⊢
      have e1 : (toR x).Size_ = x.Size_ := rfl
      have e2 : (toR y).Size_ = y.Size_ := rfl
      obtain ⟨x1, x2, x3⟩ := okx
      obtain ⟨y1, y2, y3⟩ := oky
      rw [e1, e2, wrap_i64 (16384 - x.Size_) (by omega) (by omega), wrap_i64 (x.Size_ + y.Size_) (by omega) (by omega)]
      by_cases d : y.Size_ > 16384 - x.Size_
      · rw [if_pos (by simpa using d), if_pos (by simp; omega)]
        exact ⟨_, _, _, rfl, rfl, same_step h G⟩
      · rw [if_neg (by simpa using d), if_neg (by simp; omega)]
        obtain ⟨i, rfl, hg⟩ := h
        have hl := G.len
        have hx' : ts[a.toNat]'(by omega) = x := by rw [hx, getT_in h0 h1]
        have lf : (toR x).Fields_.length = x.Fields_.length := by simp [toR]
        rw [app_some (zb := 32) (xs := ([] : List T_ref09_Field)) (by simp [lf]; omega), bind1_some, List.nil_append, app_some (zb := 32) (xs := (toR x).Fields_) (by simp [lf]; omega), bind1_some]
        simp only [pbnd_at, hg, bind1_some, gi_some h0 h1, hx']
        rw [app_some (zb := 32) (by simp; omega), bind1_some, si_some h0 h1, bind1_some, bnd_def, si_some h0 (by simpa using h1), bind1_some, bnd_def, List.set_set]
        have e3 : (⟨(toR x).Kind_, (toR x).Len_, (toR x).Base_, x.Size_ + y.Size_, (toR x).Open_, (toR x).Fields_ ++ [⟨nm, b, x.Size_⟩]⟩ : T_ref09_Type) = toR ⟨x.Kind_, x.Len_, x.Base_, x.Size_ + y.Size_, x.Open_, x.Fields_ ++ [⟨nm, b, x.Size_⟩]⟩ := by simp [toR, toRF]
        rw [e3, rput_spec (by omega) h0 h1, bind1_some, wrap_i64 (x.Size_ + y.Size_) (by omega) (by omega)]
        have ho : (ts[a.toNat]'(by omega)).Open_ = true := by rw [hx']; simp at c; exact c.2
        have fit' : FitE ts ⟨x.Kind_, x.Len_, x.Base_, x.Size_ + y.Size_, x.Open_, x.Fields_ ++ [⟨nm, b, x.Size_⟩]⟩ :=
          ⟨fun _ => by rw [hy]; exact Sums.snoc ⟨nm, b, x.Size_⟩ _ _ (ft.1 hk) (by rw [← hy]; exact hw), fun k => absurd hk k, fun k => by simp only [hk] at k; exact absurd k (by decide)⟩
        refine ⟨_, _, _, rfl, rfl, _, TabAt.set (hgT_set tab_inj tab_len hg _) _, ⟨by simp; omega, fun z hz => ?_, fun z hz => ?_⟩, rfl⟩
        · rcases List.mem_or_eq_of_mem_set hz with h | h
          · exact G.up.el z h
          · rw [h]; exact ⟨by simp only; omega, by simp only; omega, by simp; omega⟩
        · rcases List.mem_or_eq_of_mem_set hz with h | h
          · exact (G.fit z h).ext (ext_set _ (by omega) ho)
          · rw [h]; exact fit'.ext (ext_set _ (by omega) ho)
    · rw [q1, q2]
      simp only [bind1_some, sum2_inr, bind2_some]
      exact ⟨_, _, _, rfl, rfl, same_step h G⟩
theorem ptr_loops (hl : ts.length ≤ 1000) (a : Int) : ∀ (k : Nat) (j : Int), 0 ≤ j → j + k = ts.length →
    (loopO (fun (i : Int) => types_Table_Pointer_L1 ⟨ts⟩ a i) j = some (.inl ()) ∧ loopO (fun (i : Int) => ref09_Pointer_L1 (ts.map toR) a i) j = some (.inl ())) ∨
    (∃ q, loopO (fun (i : Int) => types_Table_Pointer_L1 ⟨ts⟩ a i) j = some (.inr q) ∧ loopO (fun (i : Int) => ref09_Pointer_L1 (ts.map toR) a i) j = some (.inr q))
  | 0, j, h0, h1 => by
    refine .inl ⟨loopO_out ?_, loopO_out ?_⟩
    · unfold types_Table_Pointer_L1; rw [if_neg (by simp; omega)]
    · unfold ref09_Pointer_L1; rw [if_neg (by simp; omega)]
  | k + 1, j, h0, h1 => by
    have g1 := gi_some (xs := ts) h0 (by omega)
    have g2 := gi_some (xs := ts.map toR) h0 (by simp; omega)
    have e : ((ts.map toR)[j.toNat]'(by simp; omega)) = toR (ts[j.toNat]'(by omega)) := by simp
    rw [e] at g2
    obtain ⟨x, hx⟩ : ∃ x, x = (ts[j.toNat]'(by omega)) := ⟨_, rfl⟩
    rw [← hx] at g1 g2
    have w : IntKind.i64.wrap (j + 1) = j + 1 := wrap_i64 _ (by omega) (by omega)
    have c1 : decide (j < (ts.length : Int)) = true := by simp; omega
    have c2 : decide (j < ((ts.map toR).length : Int)) = true := by simp; omega
    have e2 : (bind1 (if ((toR x).Kind_ == 7) = true then bind1 (some (toR x)) fun x9 => some (x9.Base_ == a) else some false) fun w11 => if w11 = true then (some (.inr (.inr j)) : Option (Int ⊕ (Unit ⊕ Int))) else some (.inl (j + 1)))
        = if ((x.Kind_ == 7) && (x.Base_ == a)) = true then some (.inr (.inr j)) else some (.inl (j + 1)) := by
      show (bind1 (if (x.Kind_ == 7) = true then some (x.Base_ == a) else some false) fun w11 => if w11 = true then (some (.inr (.inr j)) : Option (Int ⊕ (Unit ⊕ Int))) else some (.inl (j + 1))) = _
      cases (x.Kind_ == 7) <;> rfl
    have t1 : types_Table_Pointer_L1 ⟨ts⟩ a j = if ((x.Kind_ == 7) && (x.Base_ == a)) = true then some (.inr (.inr j)) else some (.inl (j + 1)) := by
      unfold types_Table_Pointer_L1; simp only [if_pos c1, g1, bind1_some, w]
    have t2 : ref09_Pointer_L1 (ts.map toR) a j = if ((x.Kind_ == 7) && (x.Base_ == a)) = true then some (.inr (.inr j)) else some (.inl (j + 1)) := by
      unfold ref09_Pointer_L1; rw [if_pos c2, g2, bind1_some, w]; exact e2
    by_cases c : ((x.Kind_ == 7) && (x.Base_ == a)) = true
    · rw [if_pos c] at t1 t2
      exact .inr ⟨j, loopO_out t1, loopO_out t2⟩
    · rw [if_neg c] at t1 t2
      rw [loopO_go (f := fun (i : Int) => types_Table_Pointer_L1 ⟨ts⟩ a i) t1, loopO_go (f := fun (i : Int) => ref09_Pointer_L1 (ts.map toR) a i) t2]
      exact ptr_loops hl a k (j + 1) (by omega) (by omega)
theorem pointer_spec (h : TabAt H m ts) (G : GoodT n ts) (hn : n ≤ 60) (a : Int) : ∃ H' rs' k e, types_Table_Pointer H m a = some (H', k, e) ∧ ref09_Pointer (ts.map toR) a = some (rs', k, e) ∧ StepT H' m n rs' := by
  have hl := G.len
  unfold types_Table_Pointer ref09_Pointer types_Table_kind
  rw [tget_spec h G hn, rget_spec]
  simp only [bind1_some]
  have e : ((toR (getT ts a)).Kind_ != 6) = ((getT ts a).Kind_ != 6) := rfl
  rw [e]
  by_cases c : ((getT ts a).Kind_ != 6) = true
  · rw [if_pos c, if_pos c]; exact ⟨_, _, _, _, rfl, rfl, same_step h G⟩
  rw [if_neg c, if_neg c]
  obtain ⟨H', rs', e1, e2, st⟩ := add_spec h G hn (x := ⟨7, 0, a, 4, false, []⟩) ⟨by simp, by simp, by simp⟩ ⟨fun k => absurd k (by simp), fun _ => rfl, fun k => absurd k (by simp)⟩
  have h2 := h
  obtain ⟨i, rfl, hg⟩ := h
  simp only [pbnd_at, hg, bind1_some]
  rcases ptr_loops (ts := ts) (by omega) a ts.length 0 (by omega) (by omega) with ⟨q1, q2⟩ | ⟨q, q1, q2⟩
  · rw [q1, q2]
    simp only [bind1_some, sum2_inl]
    have : (⟨7, 0, a, 4, false, ([] : List T_ref09_Field)⟩ : T_ref09_Type) = toR ⟨7, 0, a, 4, false, []⟩ := rfl
    rw [this, e1, e2]
    exact ⟨_, _, _, _, rfl, rfl, st⟩
  · rw [q1, q2]
    exact ⟨_, _, _, _, rfl, rfl, same_step h2 G⟩
/-- one call of the script -/
theorem do_spec (h : TabAt H m ts) (G : GoodT n ts) (hn : n ≤ 60) {o : T_law09_Op} (ho : wf_law09_Op o) : ∃ H' rs', law09_do H m (ts.map toR) o = some (H', rs', true) ∧ StepT H' m n rs' := by
  obtain ⟨w1, w2, w3, w4⟩ := ho
  have w2 := wf_i64.1 w2
  unfold law09_do
  by_cases k0 : (o.Kind_ == 0) = true
  · rw [if_pos k0]
    obtain ⟨H', rs', k, e, e1, e2, st⟩ := array_spec h G hn o.A_ o.B_ w2
    exact ⟨H', rs', by rw [e1, e2]; simp [bind3_some, law09_do_j1], st⟩
  rw [if_neg k0]
  by_cases k1 : (o.Kind_ == 1) = true
  · rw [if_pos k1]
    obtain ⟨H', rs', k, e, e1, e2, st⟩ := open_spec h G hn
    exact ⟨H', rs', by rw [e1, e2]; simp [bind3_some, law09_do_j1, law09_do_j2], st⟩
  rw [if_neg k1]
  by_cases k2 : (o.Kind_ == 2) = true
  · rw [if_pos k2]
    obtain ⟨H', rs', e, e1, e2, st⟩ := field_spec h G hn o.A_ o.Name_ o.B_
    exact ⟨H', rs', by rw [e1, e2]; simp [bind2_some, law09_do_j1, law09_do_j2, law09_do_j3], st⟩
  rw [if_neg k2]
  by_cases k3 : (o.Kind_ == 3) = true
  · rw [if_pos k3]
    obtain ⟨H', rs', e, e1, e2, st⟩ := close_spec h G hn o.A_
    exact ⟨H', rs', by rw [e1, e2]; simp [bind2_some, law09_do_j1, law09_do_j2, law09_do_j3, law09_do_j4], st⟩
  rw [if_neg k3]
  by_cases k4 : (o.Kind_ == 4) = true
  · rw [if_pos k4]
    obtain ⟨H', rs', k, e, e1, e2, st⟩ := pointer_spec h G hn o.A_
    exact ⟨H', rs', by rw [e1, e2]; simp [bind3_some, law09_do_j1, law09_do_j2, law09_do_j3, law09_do_j4], st⟩
  rw [if_neg k4]
  exact ⟨H, _, rfl, same_step h G⟩
end
end Go.Proofs.Abs
/- What a script of calls comes to, in the table of types and in the document's. -/
namespace Go.Proofs.Abs
open Go
set_option linter.unusedVariables false
set_option linter.unusedSimpArgs false
def base : List T_types_Type := [⟨0, 0, 0, 0, false, []⟩, ⟨1, 0, 0, 4, false, []⟩, ⟨2, 0, 0, 4, false, []⟩, ⟨3, 0, 0, 4, false, []⟩, ⟨4, 0, 0, 4, false, []⟩]
theorem new_step {H : Heap} {i : Nat} {ts : List T_types_Type} {a : Int} (ha : a = 0 ∨ a = 1 ∨ a = 2 ∨ a = 3 ∨ a = 4) (hg : get_types_Table H i 0 = some ⟨ts⟩) (hl : ts.length ≤ 5) :
    types_New_L1 i a H = some (.inl (a + 1, set_types_Table H i 0 ⟨ts ++ [⟨a, 0, 0, if a = 0 then 0 else 4, false, []⟩]⟩)) := by
  have g : ga (arrL [0, 1, 2, 3, 4] : Arr 5 Int) a = some a := by rcases ha with rfl | rfl | rfl | rfl | rfl <;> rfl
  unfold types_New_L1
  rw [if_pos (by simp; omega), g, bind1_some]
  unfold types_New_j2
  rw [hg, bind1_some, bind1_some, wrap_i64 (a + 1) (by omega) (by omega), app_some (by simp; omega), bind1_some, bnd_def, app_some (by simp; omega), bind1_some, bnd_def]
  by_cases h : a = 0
  · subst h; rfl
  · rw [if_neg (by simpa using h), if_neg h]
theorem tnew_spec (H : Heap) : ∃ H1, types_New H = some (H1, .at H.length 0) ∧ get_types_Table H1 H.length 0 = some ⟨base⟩ := by
  obtain ⟨i, hi⟩ : ∃ i, i = H.length := ⟨_, rfl⟩
  have g0 : get_types_Table (new_types_Table H ⟨[]⟩) i 0 = some ⟨[]⟩ := by rw [hi]; exact hgT_new tab_inj tab_len H _
  have s : ∀ {H : Heap} {ts : List T_types_Type} (h : get_types_Table H i 0 = some ⟨ts⟩) (ts' : List T_types_Type), get_types_Table (set_types_Table H i 0 ⟨ts'⟩) i 0 = some ⟨ts'⟩ := fun h ts' => hgT_set tab_inj tab_len h _
  have g1 := s g0 ([] ++ [⟨0, 0, 0, 0, false, []⟩])
  have g2 := s g1 ([] ++ [⟨0, 0, 0, 0, false, []⟩] ++ [⟨1, 0, 0, 4, false, []⟩])
  have g3 := s g2 ([] ++ [⟨0, 0, 0, 0, false, []⟩] ++ [⟨1, 0, 0, 4, false, []⟩] ++ [⟨2, 0, 0, 4, false, []⟩])
  have g4 := s g3 ([] ++ [⟨0, 0, 0, 0, false, []⟩] ++ [⟨1, 0, 0, 4, false, []⟩] ++ [⟨2, 0, 0, 4, false, []⟩] ++ [⟨3, 0, 0, 4, false, []⟩])
  have g5 := s g4 base
  subst hi
  refine ⟨_, ?_, g5⟩
  unfold types_New
  rw [bnd_def, bnd_def,
    loopO_go (f := fun (x : Int × Heap) => types_New_L1 H.length x.1 x.2) (new_step (a := 0) (by omega) g0 (by simp)),
    loopO_go (f := fun (x : Int × Heap) => types_New_L1 H.length x.1 x.2) (new_step (a := 0 + 1) (by omega) g1 (by simp)),
    loopO_go (f := fun (x : Int × Heap) => types_New_L1 H.length x.1 x.2) (new_step (a := 0 + 1 + 1) (by omega) g2 (by simp)),
    loopO_go (f := fun (x : Int × Heap) => types_New_L1 H.length x.1 x.2) (new_step (a := 0 + 1 + 1 + 1) (by omega) g3 (by simp)),
    loopO_go (f := fun (x : Int × Heap) => types_New_L1 H.length x.1 x.2) (new_step (a := 0 + 1 + 1 + 1 + 1) (by omega) g4 (by simp)),
    loopO_out (f := fun (x : Int × Heap) => types_New_L1 H.length x.1 x.2) (by show types_New_L1 H.length (0 + 1 + 1 + 1 + 1 + 1) _ = _; unfold types_New_L1; rw [if_neg (by decide)])]
  rfl
theorem rnew_base : ref09_New = some (base.map toR) := rfl
theorem good_base (n : Nat) : GoodT n base := ⟨by simp [base], fun x hx => by
  simp only [base, List.mem_cons, List.not_mem_nil, or_false] at hx
  rcases hx with rfl | rfl | rfl | rfl | rfl <;> exact ⟨by decide, by decide, by simp⟩, fun x hx => by
  simp only [base, List.mem_cons, List.not_mem_nil, or_false] at hx
  rcases hx with rfl | rfl | rfl | rfl | rfl <;> exact ⟨fun k => absurd k (by decide), fun _ => rfl, fun k => absurd k (by decide)⟩⟩
theorem tlen_spec {H : Heap} {m : Ptr} {ts : List T_types_Type} (h : TabAt H m ts) : types_Table_Len H m = some (ts.length : Int) := by
  obtain ⟨i, rfl, hg⟩ := h
  unfold types_Table_Len
  rw [pbnd_at, hg]; rfl
theorem tawake_spec (H : Heap) : ∃ H1, law09_awake H = some (H1, true) := by
  obtain ⟨H1, e1, g1⟩ := tnew_spec H
  have h : TabAt H1 (.at H.length 0) base := ⟨_, rfl, g1⟩
  have G := good_base 0
  have a1 : types_Table_Array H1 (.at H.length 0) 10 1 = some (set_types_Table H1 H.length 0 ⟨base ++ [⟨5, 10, 1, 40, false, []⟩]⟩, 5, 0) := by
    unfold types_Table_Array
    rw [twhole_spec h G (by omega), bind1_some, if_neg (by decide), tget_spec h G (by omega), bind1_some]
    have : getT base 1 = ⟨1, 0, 0, 4, false, []⟩ := rfl
    rw [this]
    have q : quoI .i64 16384 4 = some 4096 := rfl
    simp only [q, bind1_some, (by decide : decide ((10 : Int) < 1) = false), (by decide : decide ((10 : Int) > 16384) = false), (by decide : decide ((4 : Int) > 0) = true), (by decide : decide ((10 : Int) > 4096) = false), Bool.false_eq_true, if_false, if_true]
    unfold types_Table_add
    simp only [pbnd_at, g1, bind1_some]
    rw [if_neg (by decide), app_some (by decide), bind1_some, bnd_def]
    rfl
  have h2 : TabAt (set_types_Table H1 H.length 0 ⟨base ++ [⟨5, 10, 1, 40, false, []⟩]⟩) (.at H.length 0) (base ++ [⟨5, 10, 1, 40, false, []⟩]) := TabAt.set g1 _
  have G2 : GoodT 1 (base ++ [⟨5, 10, 1, 40, false, []⟩]) := ⟨by simp [base], fun x hx => by
    rcases List.mem_append.1 hx with h | h
    · exact (good_base 1).el x h
    · obtain rfl : x = _ := by simpa using h
      exact ⟨by decide, by decide, by simp⟩, fun x hx => by
    rcases List.mem_append.1 hx with h | h
    · exact ((good_base 1).fit x h).ext (ext_app _ _)
    · obtain rfl : x = _ := by simpa using h
      exact ⟨fun k => absurd k (by decide), fun _ => rfl, fun _ => ⟨by decide, by decide⟩⟩⟩
  unfold law09_awake
  rw [e1, bind2_some, isNil_at, if_neg (by simp), a1, bind3_some]
  have t : getT (base ++ [⟨5, 10, 1, 40, false, []⟩]) 5 = ⟨5, 10, 1, 40, false, []⟩ := rfl
  rw [tget_spec h2 G2 (by omega), t, tlen_spec h2]
  exact ⟨_, rfl⟩
theorem is_spec (x : T_types_Type) (hx : x.Fields_.length ≤ 1000) : law09_is x (toR x) = some true := by
  have loop : ∀ (k : Nat) (j : Int), 0 ≤ j → j + k = x.Fields_.length → loopO (fun (i : Int) => law09_is_L1 (toR x) x i) j = some (.inl ()) := by
    have hl : (toR x).Fields_.length = x.Fields_.length := by simp [toR]
    intro k
    induction k with
    | zero =>
      intro j h0 h1
      refine loopO_out ?_
      unfold law09_is_L1; rw [if_neg (by simp [hl]; omega)]
    | succ k ih =>
      intro j h0 h1
      have g1 := gi_some (xs := x.Fields_) h0 (by omega)
      have g2 := gi_some (xs := (toR x).Fields_) h0 (by omega)
      have e : ((toR x).Fields_[j.toNat]'(by omega)) = toRF (x.Fields_[j.toNat]'(by omega)) := by simp [toR]
      rw [e] at g2
      rw [loopO_go (f := fun (i : Int) => law09_is_L1 (toR x) x i) (s' := j + 1)]
      · exact ih (j + 1) (by omega) (by omega)
      · show law09_is_L1 (toR x) x j = _
        unfold law09_is_L1
        rw [if_pos (by simp [hl]; omega), g1, bind1_some, g2, bind1_some, if_neg (by simp [toRF, strEq]), wrap_i64 _ (by omega) (by omega)]
  unfold law09_is
  rw [if_neg (by simp [toR]), loop x.Fields_.length 0 (by omega) (by omega)]
  rfl
theorem types_loop {p : List T_law09_Op} (hp : ∀ x, x ∈ p → wf_law09_Op x) {m : Ptr} : ∀ (k : Nat) (n : Nat) (ts : List T_types_Type) (H : Heap), n + k = 60 → TabAt H m ts → GoodT n ts →
    ∃ ts' H', loopO (fun (x : (List T_ref09_Type) × Int × Heap) => law09_played_L1 p m x.1 x.2.1 x.2.2) (ts.map toR, (n : Int), H) = some (.inl (ts'.map toR, H')) ∧ TabAt H' m ts' ∧ GoodT 60 ts'
  | 0, n, ts, H, hk, h, G => by
    obtain rfl : n = 60 := by omega
    refine ⟨ts, H, loopO_out ?_, h, G⟩
    show law09_played_L1 p m (ts.map toR) _ H = _
    unfold law09_played_L1
    rw [if_neg (by simp)]
  | k + 1, n, ts, H, hk, h, G => by
    by_cases c : (n : Int) < p.length
    · obtain ⟨H', rs', e, ts', h', G', rfl⟩ := do_spec h G (by omega) (hp (p[n]'(by omega)) (List.getElem_mem _))
      obtain ⟨ts2, H2, e2, h2, G2⟩ := types_loop hp k (n + 1) ts' H' (by omega) h' G'
      refine ⟨ts2, H2, ?_, h2, G2⟩
      rw [loopO_go (f := fun (x : (List T_ref09_Type) × Int × Heap) => law09_played_L1 p m x.1 x.2.1 x.2.2) (s' := (ts'.map toR, ((n + 1 : Nat) : Int), H'))]
      · exact e2
      · show law09_played_L1 p m (ts.map toR) _ H = _
        unfold law09_played_L1
        rw [if_pos (by simp; omega), gi_some (by omega) c, bind1_some]
        have : p[(n : Int).toNat]'(by omega) = p[n]'(by omega) := by simp
        rw [this, e, bind3_some, tlen_spec h']
        have w : IntKind.i64.wrap ((n : Int) + 1) = ((n + 1 : Nat) : Int) := by rw [wrap_i64 _ (by omega) (by omega)]; simp
        rw [w]
        simp [bind1_some]
    · refine ⟨ts, H, loopO_out ?_, h, ⟨by have := G.len; omega, fun x hx => by have := G.el x hx; exact ⟨this.1, this.2.1, by have := this.2.2; omega⟩, G.fit⟩⟩
      show law09_played_L1 p m (ts.map toR) _ H = _
      unfold law09_played_L1
      rw [if_neg (by simp; omega)]
theorem same_loop {m : Ptr} {ts : List T_types_Type} {H : Heap} (h : TabAt H m ts) (G : GoodT 60 ts) : ∀ (k : Nat) (j : Int), 0 ≤ j → j + k = ts.length → loopO (fun (x : Int) => law09_played_L2 (ts.map toR) H m x) j = some (.inl ())
  | 0, j, h0, h1 => by
    refine loopO_out ?_
    unfold law09_played_L2; rw [if_neg (by simp; omega)]
  | k + 1, j, h0, h1 => by
    have hl := G.len
    rw [loopO_go (f := fun (x : Int) => law09_played_L2 (ts.map toR) H m x) (s' := j + 1)]
    · exact same_loop h G k (j + 1) (by omega) (by omega)
    · show law09_played_L2 (ts.map toR) H m j = _
      unfold law09_played_L2
      have ok := getT_ok G j
      have hj : ((ts.map toR)[j.toNat]'(by simp; omega)) = toR (getT ts j) := by rw [getT_in h0 (by omega)]; simp
      rw [if_pos (by simp; omega), gi_some h0 (by simp; omega), bind1_some, hj, tget_spec h G (by omega), bind1_some, is_spec _ (by have := ok.2.2; omega), bind1_some, wrap_i64 _ (by omega) (by omega)]
      rfl
/-- what a script comes to -/
theorem tplayed_spec {p : List T_law09_Op} (hp : ∀ x, x ∈ p → wf_law09_Op x) (H : Heap) : ∃ H' ts, law09_played H p = some (H', .at H.length 0, ts.map toR, true) ∧ TabAt H' (.at H.length 0) ts ∧ GoodT 60 ts := by
  obtain ⟨H1, e1, g1⟩ := tnew_spec H
  obtain ⟨ts, H2, e2, h2, G2⟩ := types_loop hp 60 0 base H1 (m := .at H.length 0) (by omega) ⟨_, rfl, g1⟩ (good_base 0)
  refine ⟨H2, ts, ?_, h2, G2⟩
  unfold law09_played
  rw [e1, bind2_some, rnew_base, bind1_some]
  have e2' : loopO (fun (x : (List T_ref09_Type) × Int × Heap) => law09_played_L1 p (.at H.length 0) x.1 x.2.1 x.2.2) (base.map toR, (0 : Int), H1) = some (.inl (ts.map toR, H2)) := e2
  rw [e2', bind1_some, sum2_inl]
  show bind1 (loopO _ 0) _ = _
  rw [same_loop h2 G2 ts.length 0 (by omega) (by omega)]
  rfl
end Go.Proofs.Abs
/- Of any types: which is simple, takes another one, may be held against it, has less and more, and where a field is. -/
namespace Go.Proofs.Abs
open Go
set_option linter.unusedVariables false
set_option linter.unusedSimpArgs false
section
variable {m : Ptr} {ts : List T_types_Type} {H : Heap}
def simpK (k : Int) : Bool := if (decide (k ≥ 1)) = true then ((decide (k ≤ 4)) || (k == 7)) else (k == 7)
theorem kind_spec (h : TabAt H m ts) (G : GoodT 60 ts) (a : Int) : types_Table_kind H m a = some (getT ts a).Kind_ := by
  unfold types_Table_kind; rw [tget_spec h G (by omega)]; rfl
theorem simple_spec (h : TabAt H m ts) (G : GoodT 60 ts) (a : Int) : types_Table_Simple H m a = some (simpK (getT ts a).Kind_) := by
  unfold types_Table_Simple
  rw [kind_spec h G, bind1_some]
  generalize (getT ts a).Kind_ = k
  unfold types_Table_Simple_j4 types_Table_Simple_j3 types_Table_Simple_j2 types_Table_Simple_j1 simpK
  by_cases c1 : k = 1
  · subst c1; rfl
  by_cases c2 : k = 2
  · subst c2; rfl
  by_cases c3 : k = 3
  · subst c3; rfl
  by_cases c4 : k = 4
  · subst c4; rfl
  by_cases c7 : k = 7
  · subst c7; rfl
  have e : (if (decide (k ≥ 1)) = true then ((decide (k ≤ 4)) || (k == 7)) else (k == 7)) = false := by
    by_cases d : k ≥ 1
    · rw [if_pos (by simpa using d)]; simp [c7]; omega
    · rw [if_neg (by simpa using d)]; simp [c7]
  rw [e]
  simp [c1, c2, c3, c4, c7]
theorem rsimple_spec (ts : List T_types_Type) (a : Int) : ref09_Simple (ts.map toR) a = some (simpK (getT ts a).Kind_) := by
  unfold ref09_Simple; rw [rget_spec]; rfl
def takesT (ts : List T_types_Type) (a b : Int) : Bool := if (a == b) = true then simpK (getT ts a).Kind_ && (a != 4) else ((getT ts a).Kind_ == 7) && (b == 4)
theorem takes_spec (h : TabAt H m ts) (G : GoodT 60 ts) (a b : Int) : types_Table_Takes H m a b = some (takesT ts a b) := by
  unfold types_Table_Takes takesT
  rw [simple_spec h G, kind_spec h G, bind1_some, bind1_some]
  split <;> rfl
theorem rtakes_spec (ts : List T_types_Type) (a b : Int) : ref09_Takes (ts.map toR) a b = some (takesT ts a b) := by
  unfold ref09_Takes takesT
  rw [rsimple_spec, rget_spec, bind1_some, bind1_some]
  show _ = some (if (a == b) = true then _ else _)
  split <;> rfl
theorem equals_spec (h : TabAt H m ts) (G : GoodT 60 ts) (a b : Int) : ∃ r, types_Table_Equals H m a b = some r ∧ ref09_Equals (ts.map toR) a b = some r := by
  unfold types_Table_Equals ref09_Equals
  simp only [takes_spec h G, rtakes_spec, bind1_some]
  cases takesT ts a b <;> cases takesT ts b a <;> cases (a == 4) <;> exact ⟨_, rfl, rfl⟩
theorem find_loops2 (x : T_types_Type) (hx : x.Fields_.length ≤ 1000) (nm : ByteArray) : ∀ (k : Nat) (j : Int), 0 ≤ j → j + k = x.Fields_.length →
    (loopO (fun (i : Int) => types_Table_Find_L1 x nm i) j = some (.inl ()) ∧ loopO (fun (i : Int) => ref09_Find_L1 (toR x) nm i) j = some (.inl ())) ∨
    (∃ f, loopO (fun (i : Int) => types_Table_Find_L1 x nm i) j = some (.inr f) ∧ loopO (fun (i : Int) => ref09_Find_L1 (toR x) nm i) j = some (.inr (toRF f)))
  | 0, j, h0, h1 => by
    refine .inl ⟨loopO_out ?_, loopO_out ?_⟩
    · unfold types_Table_Find_L1; rw [if_neg (by simp; omega)]
    · unfold ref09_Find_L1; rw [if_neg (by simp [toR]; omega)]
  | k + 1, j, h0, h1 => by
    have hl : (toR x).Fields_.length = x.Fields_.length := by simp [toR]
    have g1 := gi_some (xs := x.Fields_) h0 (by omega)
    have g2 := gi_some (xs := (toR x).Fields_) h0 (by omega)
    have e : ((toR x).Fields_[j.toNat]'(by omega)) = toRF (x.Fields_[j.toNat]'(by omega)) := by simp [toR]
    rw [e] at g2
    have w : IntKind.i64.wrap (j + 1) = j + 1 := wrap_i64 _ (by omega) (by omega)
    have c1 : decide (j < (x.Fields_.length : Int)) = true := by simp; omega
    have c2 : decide (j < ((toR x).Fields_.length : Int)) = true := by rw [hl]; exact c1
    by_cases c : strEq (x.Fields_[j.toNat]'(by omega)).Name_ nm = true
    · refine .inr ⟨x.Fields_[j.toNat]'(by omega), loopO_out ?_, loopO_out ?_⟩
      · unfold types_Table_Find_L1; rw [if_pos c1, g1, bind1_some, if_pos c]
      · unfold ref09_Find_L1; rw [if_pos c2, g2, bind1_some, if_pos (by exact c), bind1_some]
    · rw [loopO_go (f := fun (i : Int) => types_Table_Find_L1 x nm i) (s' := j + 1) (by show types_Table_Find_L1 x nm j = _; unfold types_Table_Find_L1; rw [if_pos c1, g1, bind1_some, if_neg c, w]),
        loopO_go (f := fun (i : Int) => ref09_Find_L1 (toR x) nm i) (s' := j + 1) (by show ref09_Find_L1 (toR x) nm j = _; unfold ref09_Find_L1; rw [if_pos c2, g2, bind1_some, if_neg (by exact c), w])]
      exact find_loops2 x hx nm k (j + 1) (by omega) (by omega)
theorem find_spec (h : TabAt H m ts) (G : GoodT 60 ts) (a : Int) (nm : ByteArray) : ∃ f e, types_Table_Find H m a nm = some (f, e) ∧ ref09_Find (ts.map toR) a nm = some (toRF f, e) := by
  unfold types_Table_Find ref09_Find
  rw [tget_spec h G (by omega), rget_spec, bind1_some, bind1_some]
  have ok := getT_ok G a
  generalize getT ts a = x at ok
  have e : ((toR x).Kind_ != 6) = (x.Kind_ != 6) := rfl
  rw [e]
  by_cases c : (x.Kind_ != 6) = true
  · rw [if_pos c, if_pos c]; exact ⟨_, _, rfl, rfl⟩
  rw [if_neg c, if_neg c]
  rcases find_loops2 x (by have := ok.2.2; omega) nm x.Fields_.length 0 (by omega) (by omega) with ⟨q1, q2⟩ | ⟨f, q1, q2⟩
  · rw [q1, q2]; exact ⟨_, _, rfl, rfl⟩
  · rw [q1, q2]; exact ⟨_, _, rfl, rfl⟩
end
theorem TypesTells_holds : TypesTellsPure := by
  intro p o wp wo
  obtain ⟨H1, e1⟩ := tawake_spec []
  obtain ⟨H2, ts, e2, h, G⟩ := tplayed_spec wp.1 H1
  obtain ⟨f, e, f1, f2⟩ := find_spec h G o.A_ o.Name_
  obtain ⟨q, q1, q2⟩ := equals_spec h G o.A_ o.B_
  have ok := getT_ok G o.A_
  unfold law09_TypesTells
  rw [e1, bind2_some, if_neg (by simp), e2, bind4_some, if_neg (by simp), f1, bind2_some, f2, bind2_some]
  have s : strEq f.Name_ (toRF f).Name_ = true := by simp [toRF, strEq]
  have t : (f.Type_ != (toRF f).Type_) = false := by simp [toRF]
  have u : (f.Offset_ != (toRF f).Offset_) = false := by simp [toRF]
  simp only [bne_self_eq_false, s, t, u, Bool.not_true, Bool.false_eq_true, if_false, tget_spec h G (show 60 ≤ 60 by omega), rget_spec, bind1_some, is_spec _ (show (getT ts o.A_).Fields_.length ≤ 1000 by have := ok.2.2; omega),
    simple_spec h G, rsimple_spec, takes_spec h G, rtakes_spec, q1, q2, beq_self_eq_true, if_true]
  unfold types_Table_Ordered ref09_Ordered
  simp only [kind_spec h G, rget_spec, bind1_some]
  have v : (toR (getT ts o.A_)).Kind_ = (getT ts o.A_).Kind_ := rfl
  simp only [v, beq_self_eq_true]
  exact ⟨_, rfl⟩
end Go.Proofs.Abs
