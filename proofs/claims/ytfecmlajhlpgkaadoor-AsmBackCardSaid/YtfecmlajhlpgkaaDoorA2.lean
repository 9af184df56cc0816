/- The law AsmBack: whatever the input, it answers true. No conditions. (Part A2 of its proof.) -/
import Derived.Test.YtfecmlajhlpgkaaDoorA1
import Derived.Below
set_option linter.unusedVariables false
set_option linter.unusedSimpArgs false
set_option linter.unusedSectionVars false
/- Whole functions. -/
namespace Go.Proofs.Abs
open Go
set_option linter.unusedVariables false
set_option linter.unusedSimpArgs false

section
variable {X : Cx} {pu : Pu} {st : Bool} {s s' : St} {a : Act} {w : World} {g : Gh}

def Fml (r0 : Rk) (off n k : Nat) (r : Rk) (π : List Nat) : Ow :=
  match π with
  | q :: ρ => if r = r0 ∧ off ≤ q ∧ q < off + n then .pth (.lim k) ((q - off) :: ρ) else .pth r (q :: ρ)
  | [] => .pth r []
theorem Fml_side {r0 off n k} (h0 : r0.isObj = false) : keepsSide (Fml r0 off n k) := by
  intro r π
  unfold Fml
  split
  · split
    · rename_i h; rw [h.1]; exact .inr ⟨_, _, rfl, h0.symm⟩
    · exact .inr ⟨_, _, rfl, rfl⟩
  · exact .inr ⟨_, _, rfl, rfl⟩
theorem Fml_keep {r0 off n k r} (h : r ≠ r0) (π) : Fml r0 off n k r π = .pth r π := by
  unfold Fml
  split
  · rw [if_neg (fun h' => h h'.1)]
  · rfl
theorem Rel.takeLoc {P : Program} {fl} (R : Rel s fl a w g) {agg n t off cs p tv ty} (pu : Pu)
    (ha : isAggT P ty = some agg) (hn : szOf P ty = some n) (hs : find t s.l = some cs) (hp : cellsAt cs off n = some p)
    (ht : mkT agg p = some tv) : ∃ v g', (loadVar ty ⟨g.ψ t, off, none⟩).run P w = .ok v w ∧ Rel { s with l := put t (setAt cs off (p.map leaveC)) s.l } (fl ++ [(tv, v)]) a w g' ∧ Le pu w g w g' ∧ Same g g' := by
  have hF : keepsSide (Fml (.loc t) off n fl.length) := Fml_side rfl
  obtain ⟨q1, q2, q3⟩ := cellsAt_inv hp
  have hB := R.bx t cs hs
  have hex : ∃ vs : Nat → Value, ∀ j, j < n → cel w (g.ψ t) (off + j) = some (vs j) := ⟨fun j => (cel w (g.ψ t) (off + j)).getD undef, fun j hj => by
    obtain ⟨v, hv, _⟩ := hB.cell (off + j) p[j] (q3 j _ (by simp [q2, hj])).2
    show cel w (g.ψ t) (off + j) = some ((cel w (g.ψ t) (off + j)).getD undef)
    rw [hv]; rfl⟩
  obtain ⟨vs, hvs⟩ := hex
  obtain ⟨h1, h2⟩ := loaded_RT (w := w) (g := relabel (Fml (.loc t) off n fl.length) g) (vs := vs) ht q2 (r := .lim fl.length) fun j c hc => by
    obtain ⟨hj, hc'⟩ := q3 j c hc
    obtain ⟨v, hv, _, hk⟩ := hB.cell _ c hc'
    have := hvs j hj
    rw [hv] at this; cases this
    exact hk.moved hF fun _ ρ => by
      show Fml _ _ _ _ _ (_ :: ρ) = _
      simp [Fml]; omega
  refine ⟨_, _, run_loadVar ha hn h2 hvs, ?_, le_relabel hF pu (fun id π => Fml_keep (by simp) π) fun _ t => rfl, ⟨rfl, fun _ => rfl, fun _ => rfl, fun _ => rfl⟩⟩
  refine ⟨R.n, fun i y hi => ?_, fun t' tv' ht' => (R.tm t' tv' ht').kept hF fun π => Fml_keep (by simp) π, fun t' cs' ht' => ?_,
    fun id cs' hi => (R.hp id cs' hi).kept hF (by rw [R.n]; exact (List.getElem?_eq_some_iff.1 hi).1) fun π => Fml_keep (by simp) π, fun r d z xs hat b o sp len cap hv => ?_⟩
  · rw [List.getElem?_append] at hi
    split at hi
    · exact (R.fl i y hi).kept hF fun π => Fml_keep (by simp) π
    · rw [List.getElem?_singleton] at hi
      split at hi
      · cases hi
        obtain rfl : i = fl.length := by omega
        exact h1
      · cases hi
  · simp only [find_put] at ht'
    split at ht'
    · rename_i e
      subst e
      cases ht'
      refine ⟨by rw [show (relabel (Fml (.loc t') off n fl.length) g).ψ t' = g.ψ t' from rfl, relabel_own hB.own]; rfl, hB.blk, hB.fr, fun q c hc => ?_⟩
      rcases leave_get hp hc with ⟨e1, e2, c0, e3, rfl⟩ | ⟨e1, e2⟩
      · obtain ⟨v, k1, k2, k3⟩ := hB.cell q c0 e3
        exact ⟨v, k1, k2, k3.leave hF⟩
      · obtain ⟨v, k1, k2, k3⟩ := hB.cell q c e2
        refine ⟨v, k1, k2, k3.chg (chg_relabel hF) (cellOk_all (fun ρ => ?_) (fun _ => rfl) (fun _ => rfl))⟩
        show Fml _ _ _ _ _ (q :: ρ) = _
        simp only [Fml]
        rw [if_neg (fun h => e1 h.2)]
        rfl
    · rename_i e
      exact (R.bx t' cs' ht').kept hF fun π => Fml_keep (by simp [e]) π
  · refine R.hd r d z xs ?_ b o sp len cap hv
    cases r with
    | obj id off' => exact hat
    | tmp t' => exact hat
    | loc t' off' =>
      change cellOf off' (find t' (put t _ s.l)) = _ at hat
      change cellOf off' (find t' s.l) = _
      rw [find_put] at hat
      by_cases e : t' = t
      · subst e
        rw [if_pos rfl] at hat
        rcases leave_get hp hat with ⟨_, _, c0, _, e⟩ | ⟨_, e⟩
        · exact absurd e.symm leaveC_not_own
        · rw [hs]; exact e
      · rw [if_neg e] at hat; exact hat

/-! ### what is handed back -/
theorem retC_ok {m c m' c' r π v} (h : retC (m, c) = some (m', c')) (hr : RC w g m r π c v) : RC w g m' r π c' v ∧ retOk (m', c') = true := by
  unfold retC at h
  split at h
  · rename_i he
    cases he
    split at h
    · cases h; exact ⟨hr, rfl⟩
    · cases h; exact ⟨hr, rfl⟩
    · cases h
  · cases h; exact ⟨.inl (.junk hr.oneCell), rfl⟩
  · rename_i h1 h2 he
    cases he
    split at h
    · rename_i hs
      cases h
      refine ⟨hr, ?_⟩
      cases c <;> first | (cases m <;> rfl) | cases hs
    · cases h
theorem retT_ok {tv tv' r v} (h : retT tv = some tv') (hr : RT w g r tv v) : RT w g r tv' v ∧ (∀ c, c ∈ all1 tv' → retOk c = true) ∧ (noTup tv' = true ∨ tv' = .tup []) := by
  cases tv with
  | one m c =>
    simp only [retT, Option.map_eq_some_iff] at h
    obtain ⟨d, h1, rfl⟩ := h
    obtain ⟨k1, k2⟩ := retC_ok (m' := d.1) (c' := d.2) h1 hr
    exact ⟨k1, fun c hc => by simp [all1] at hc; subst hc; exact k2, .inl rfl⟩
  | agg cs =>
    simp only [retT, Option.map_eq_some_iff] at h
    obtain ⟨ds, h1, rfl⟩ := h
    obtain ⟨vs, rfl, h2, h3⟩ := hr
    obtain ⟨k1, k2⟩ := mapO_get h1
    refine ⟨⟨vs, rfl, h2.trans k1.symm, fun j d hd => ?_⟩, fun d hd => ?_, .inl rfl⟩
    · obtain ⟨c, hc, hp⟩ := k2 j d hd
      obtain ⟨u, hu, hk⟩ := h3 j c hc
      exact ⟨u, hu, (retC_ok (m := c.1) (c := c.2) (m' := d.1) (c' := d.2) hp hk).1⟩
    · obtain ⟨j, hj⟩ := List.mem_iff_getElem?.1 hd
      obtain ⟨c, hc, hp⟩ := k2 j d hj
      obtain ⟨u, hu, hk⟩ := h3 j c hc
      exact (retC_ok (m := c.1) (c := c.2) (m' := d.1) (c' := d.2) hp hk).2
  | tup vs => cases vs with
    | nil => cases h; exact ⟨hr, fun c hc => by simp [all1] at hc, .inr rfl⟩
    | cons x xs => cases h

theorem takes_ok {P : Program} (pu : Pu) : ∀ (rs : List ResultVar) (s : St) (fl : List (TV × Value)) (g : Gh) (us : List TV), takes P rs s = some us → Rel s fl a w g →
    ∃ vals : List Value, ∃ s2 g', vals.length = us.length ∧ (rs.mapM (m := Sem) fun | .tmp t => pure (a.tmps.getD t undef) | .cell b t => do loadVar t (← asAddr (a.tmps.getD b undef))).run P w = .ok vals w ∧
      Rel s2 (fl ++ us.zip vals) a w g' ∧ s2.h = s.h ∧ Le pu w g w g' ∧ ∀ u, u ∈ us → (∀ c, c ∈ all1 u → retOk c = true) ∧ (noTup u = true ∨ u = .tup [])
  | [], s, fl, g, us, h, R => by
    cases h
    exact ⟨[], s, g, rfl, by simp, by simpa using R, rfl, .refl _ _ _, fun u hu => by cases hu⟩
  | .tmp t :: rs, s, fl, g, us, h, R => by
    simp only [takes] at h
    split at h
    rotate_left
    · cases h
    rename_i v hf
    split at h
    rotate_left
    · cases h
    rename_i u us' h1 h2
    cases h
    obtain ⟨g1, R1, L1⟩ := R.take pu hf
    have hv := R1.fl fl.length (v, a.tmps.getD t undef) (by simp)
    obtain ⟨k1, k2, k3⟩ := retT_ok h1 hv
    have R1' : Rel { s with t := put t v.leave s.t } (fl ++ [(u, a.tmps.getD t undef)]) a w g1 := by
      have := R1.forget (fl := fl)
      exact this.push k1
    obtain ⟨vals, s2, g2, q1, q2, q3, q4, q5, q6⟩ := takes_ok pu rs _ _ g1 us' h2 R1'
    refine ⟨a.tmps.getD t undef :: vals, s2, g2, by simp [q1], ?_, by simpa using q3, q4, L1.trans q5, fun x hx => ?_⟩
    · simp only [List.mapM_cons, Sem.run_bind, Sem.run_pure, Result.andThen_ok, q2]
    · rcases List.mem_cons.1 hx with rfl | hx
      · exact ⟨k2, k3⟩
      · exact q6 x hx
  | .cell t ty :: rs, s, fl, g, us, h, R => by
    simp only [takes] at h
    split at h
    rotate_left
    · cases h
    rename_i m b off hf
    split at h
    rotate_left
    · cases h
    rename_i cs agg n hs ha hn
    split at h
    rotate_left
    · cases h
    rename_i p hp
    split at h
    rotate_left
    · cases h
    rename_i v ht
    split at h
    rotate_left
    · cases h
    rename_i u us' h1 h2
    cases h
    obtain ⟨x, g1, run, R1, L1, S1⟩ := R.takeLoc pu ha hn hs hp ht
    have hv := R1.fl fl.length (v, x) (by simp)
    obtain ⟨k1, k2, k3⟩ := retT_ok h1 hv
    have R1' := (R1.forget (fl := fl)).push k1
    obtain ⟨vals, s2, g2, q1, q2, q3, q4, q5, q6⟩ := takes_ok pu rs _ _ g1 us' h2 R1'
    have hval : a.tmps.getD t undef = ptr (g.ψ b) off := (show RC w g m (.tmp t) [0] (.loc b off) _ from R.tm t _ hf).loc
    refine ⟨x :: vals, s2, g2, by simp [q1], ?_, by simpa using q3, q4, L1.trans q5, fun y hy => ?_⟩
    · have has : asAddr (a.tmps.getD t undef) = pure ⟨g.ψ b, off, none⟩ := by rw [hval]; rfl
      simp only [List.mapM_cons, Sem.run_bind, has, pure_bind, run, Result.andThen_ok, q2, Sem.run_pure]
    · rcases List.mem_cons.1 hy with rfl | hy
      · exact ⟨k2, k3⟩
      · exact q6 y hy

def Fgat (r : Rk) (π : List Nat) : Ow := match r with
  | .lim i => .pth (.lim 0) (i :: π)
  | r => .pth r π
theorem Fgat_side : keepsSide Fgat := by
  intro r π
  cases r <;> exact .inr ⟨_, _, rfl, rfl⟩
theorem results_ok {P : Program} (pu : Pu) {rs : List ResultVar} {tv : TV} (h : results P rs s = some tv) (R : Rel s [] a w g) :
    ∃ u s2 g', ((do let vs ← rs.mapM (m := Sem) fun | .tmp t => pure (a.tmps.getD t undef) | .cell b t => do loadVar t (← asAddr (a.tmps.getD b undef))
                    pure (if h : vs.toArray.size = 1 then vs.toArray[0] else .tuple vs.toArray)) : Sem Value).run P w = .ok u w ∧ Rel s2 [(tv, u)] a w g' ∧ s2.h = s.h ∧ Le pu w g w g' ∧ retOkT tv = true := by
  unfold results at h
  cases ht : takes P rs s with
  | none => rw [ht] at h; cases h
  | some us =>
    rw [ht] at h
    obtain ⟨vals, s2, g1, q1, q2, q3, q4, q5, q6⟩ := takes_ok pu rs s [] g us ht R
    simp only [List.nil_append] at q3
    simp only [Sem.run_bind, q2, Result.andThen_ok, Sem.run_pure]
    cases us with
    | nil =>
      cases h
      obtain rfl : vals = [] := List.length_eq_zero_iff.1 q1
      exact ⟨_, s2, g1, rfl, (q3.forget (fl := [])).push ⟨#[], rfl, rfl, fun j tv h => by simp at h⟩, q4, q5, rfl⟩
    | cons v us => cases us with
      | nil =>
        cases h
        obtain ⟨u, rfl⟩ : ∃ u, vals = [u] := by
          cases vals with
          | nil => simp at q1
          | cons u r => cases r with
            | nil => exact ⟨u, rfl⟩
            | cons _ _ => simp at q1
        obtain ⟨k1, k2⟩ := q6 tv (by simp)
        refine ⟨_, s2, g1, rfl, q3, q4, q5, List.all_eq_true.2 fun c hc => ?_⟩
        rcases k2 with k2 | rfl
        · cases tv <;> first | exact k1 c hc | cases k2
        · simp [TV.all] at hc
      | cons v2 us =>
        cases h
        have hs1 : ¬ (vals.toArray.size = 1) := by simp at q1 ⊢; omega
        rw [dif_neg hs1]
        have hF := Fgat_side
        refine ⟨_, s2, relabel Fgat g1, rfl, ?_, q4, q5.trans (le_relabel hF pu (fun id π => rfl) fun _ t => rfl), List.all_eq_true.2 fun c hc => ?_⟩
        · have R0 := q3.forget (fl := [])
          have R1 : Rel s2 [] a w (relabel Fgat g1) := ⟨R0.n, fun i y hi => by simp at hi, fun t tv ht => (R0.tm t tv ht).kept hF fun π => rfl, fun t cs ht => (R0.bx t cs ht).kept hF fun π => rfl,
            fun id cs hi => (R0.hp id cs hi).kept hF (by rw [R0.n]; exact (List.getElem?_eq_some_iff.1 hi).1) fun π => rfl, R0.hd⟩
          refine R1.push (fl := []) ⟨vals.toArray, rfl, by simpa using q1, fun j tv hj => ?_⟩
          have hlt : j < vals.length := by rw [q1]; exact (List.getElem?_eq_some_iff.1 hj).1
          refine ⟨vals[j], by simp [hlt], ?_⟩
          have h0 : RT w g1 (.lim j) tv vals[j] := q3.fl j (tv, vals[j]) (by rw [List.getElem?_zip_eq_some]; exact ⟨hj, by simp [hlt]⟩)
          obtain ⟨_, k2⟩ := q6 tv (List.mem_of_getElem? hj)
          have h1 : RT1 w g1 (.lim j) [] tv vals[j] := by
            rcases k2 with k2 | rfl
            · cases tv <;> first | exact h0 | cases k2
            · obtain ⟨vs, e1, e2, _⟩ := h0
              have : vs = #[] := Array.eq_empty_of_size_eq_zero (by simpa using e2)
              rw [e1, this]; rfl
          exact h1.moved (π := []) (π' := [j]) hF fun ρ => rfl
        · simp only [TV.all, List.mem_flatMap] at hc
          obtain ⟨u, hu, hc⟩ := hc
          exact (q6 u hu).1 c hc
end
end Go.Proofs.Abs
/- Whole functions: the machine's word holds. -/
namespace Go.Proofs.Abs
open Go
set_option linter.unusedVariables false
set_option linter.unusedSimpArgs false

section
variable {X : Cx} {pu : Pu} {st : Bool} {s s' : St} {a : Act} {w : World} {g : Gh}

theorem frz_retC {c : MC} (h : retOk c = true) : retOk (c.1.frz, c.2) = true := by
  obtain ⟨m, c⟩ := c
  cases c <;> cases m <;> first | exact h | rfl
theorem frz_ret (z : Bool) {tv : TV} (h : retOkT tv = true) : retOkT (frzIf z tv) = true := by
  cases z with
  | false => exact h
  | true =>
    cases tv with
    | one m c => simp only [retOkT, List.all_eq_true] at h ⊢; intro x hx; simp [frzIf, TV.frz, frz1, TV.all, all1] at hx; subst hx; exact frz_retC (c := (m, c)) (h (m, c) (by simp [TV.all, all1]))
    | agg cs =>
      simp only [retOkT, List.all_eq_true] at h ⊢
      intro x hx
      simp only [frzIf, TV.frz, frz1, TV.all, all1, List.mem_map] at hx
      obtain ⟨y, hy, rfl⟩ := hx
      exact frz_retC (h _ hy)
    | tup vs =>
      simp only [retOkT, List.all_eq_true] at h ⊢
      intro x hx
      simp only [frzIf, TV.frz, TV.all, List.mem_flatMap, List.mem_map] at hx
      obtain ⟨y, ⟨z, hz, rfl⟩, hx⟩ := hx
      cases z with
      | one m c => simp [frz1, all1] at hx; subst hx; exact frz_retC (c := (m, c)) (h (m, c) (by simp only [TV.all, List.mem_flatMap]; exact ⟨_, hz, by simp [all1]⟩))
      | agg cs =>
        simp only [frz1, all1, List.mem_map] at hx
        obtain ⟨y, hy, rfl⟩ := hx
        exact frz_retC (h _ (by simp only [TV.all, List.mem_flatMap]; exact ⟨_, hz, by simpa [all1] using hy⟩))
      | tup us => exact h _ (by simp only [TV.all, List.mem_flatMap]; exact ⟨_, hz, hx⟩)
theorem body2_ok {f : FuncId} {args : List TV} {h : Heap} {v : TV} {h' : Heap} {fn : Func} {c : Code} (hfn : X.P.funcs[f]? = some fn) (hbody : fn.body = some c) (hb : evBody2 X f fn c args h = some (v, h')) :
    (∃ fn, X.P.funcs[f]? = some fn ∧ (fn.name == "runtime.NumGoroutine") = false ∧ fn.body.isNone = false) ∧
    ∀ (w : World) (g : Gh) (a0 : Act) (us : Array Value), us.size = args.length → (∀ (i : Nat) u, us[i]? = some u → a0.tmps.getD i undef = u) → Rel ⟨number 0 args, [], h⟩ [] a0 w g → Glob X w g →
      Calls X.P f us w fun e w' => ∃ u g' a' hf, e = .returned u ∧ Rel ⟨[], [], hf⟩ [(v, u)] a' w' g' ∧ Le ⟨X.pure f, []⟩ w g w' g' ∧ retOkT v = true ∧ (X.pure f = true → h' = h ∧ hf.length = h.length) ∧ (X.pure f = false → hf = h') := by
  unfold evBody2 at hb
  split at hb
  rotate_left
  · cases hb
  rename_i hok
  simp only [okBody2, Bool.and_eq_true] at hok
  obtain ⟨v0, hv0, hk⟩ : ∃ v0, v = frzIf (X.frz f) v0 ∧ evK X ⟨X.pure f, []⟩ f (fun s => bodyF X.P (X.pure f) h fn.results.toList (some (.ret, s))) c (fun s => bodyF X.P (X.pure f) h fn.results.toList (some (.nrm, s))) { t := number 0 args, l := [], h := h } = some (v0, h') := by
    cases hq : evK X ⟨X.pure f, []⟩ f (fun s => bodyF X.P (X.pure f) h fn.results.toList (some (.ret, s))) c (fun s => bodyF X.P (X.pure f) h fn.results.toList (some (.nrm, s))) { t := number 0 args, l := [], h := h } with
    | none => rw [hq] at hb; cases hb
    | some q => rw [hq] at hb; cases hb; exact ⟨q.1, rfl, rfl⟩
  clear hb
  subst hv0
  refine ⟨⟨fn, hfn, by have := hok.1; simp only [bne, Bool.not_eq_true'] at this; exact this, by rw [hbody]; rfl⟩, fun w g a0 us hsz hus R GL => ?_⟩
  have ha : ∀ t tv, find t (number 0 args) = some tv → (us ++ Array.replicate (fn.ntmps - us.size) undef).getD t undef = a0.tmps.getD t undef := fun t tv ht => by
    obtain ⟨_, h1⟩ := find_number args 0 t tv ht
    rw [Nat.sub_zero] at h1
    have hlt : t < us.size := by rw [hsz]; exact (List.getElem?_eq_some_iff.1 h1).1
    rw [hus t us[t] (by simp [hlt])]
    simp [Array.getD_eq_getD_getElem?, Array.getElem?_append_left hlt, hlt]
  have R0 : Rel ⟨number 0 args, [], h⟩ [] { tmps := us ++ Array.replicate (fn.ntmps - us.size) undef, defers := [] } w g := R.act ha
  have post : ∀ (a' : Act) (w' : World) (g' : Gh) (s : St) (e : Ex), (∀ j, e ≠ .exit j) → Rel s [] a' w' g' → Le ⟨X.pure f, []⟩ w g w' g' → a'.defers = [] → bodyF X.P (X.pure f) h fn.results.toList (some (e, s)) = some (v0, h') →
      a'.defers = [] ∧ ∃ v_1, (Go.results fn a'.tmps).run X.P w' = .ok v_1 w' ∧ ∃ u g' a' hf, Ending.returned v_1 = .returned u ∧ Rel ⟨[], [], hf⟩ [(frzIf (X.frz f) v0, u)] a' w' g' ∧ Le ⟨X.pure f, []⟩ w g w' g' ∧ retOkT (frzIf (X.frz f) v0) = true ∧ (X.pure f = true → h' = h ∧ hf.length = h.length) ∧ (X.pure f = false → hf = h') := by
    intro a' w' g' s e hne r1 r2 r3 hr
    obtain ⟨hres, hh⟩ : Abs.results X.P fn.results.toList s = some v0 ∧ ((X.pure f = true → h' = h ∧ s.h.length = h.length) ∧ (X.pure f = false → s.h = h')) := by
      have hr' : (match Abs.results X.P fn.results.toList s with
        | some v => if X.pure f then (if s.h.length = h.length then some (v, h) else none) else some (v, s.h)
        | none => none) = some (v0, h') := by
        cases e with
        | exit j => exact absurd rfl (hne j)
        | nrm => exact hr
        | ret => exact hr
      cases hq : Abs.results X.P fn.results.toList s with
      | none => rw [hq] at hr'; cases hr'
      | some v1 =>
        rw [hq] at hr'
        simp only at hr'
        cases hp : X.pure f with
        | true =>
          rw [hp] at hr'
          simp only [if_true] at hr'
          split at hr'
          · rename_i hl; cases hr'; exact ⟨rfl, fun _ => ⟨rfl, hl⟩, fun h => (by cases h)⟩
          · cases hr'
        | false =>
          rw [hp] at hr'
          simp only [Bool.false_eq_true, if_false] at hr'
          cases hr'
          exact ⟨rfl, fun h => (by cases h), fun _ => rfl⟩
    obtain ⟨u, s2, g2, q1, q2, q3, q4, q5⟩ := results_ok ⟨X.pure f, []⟩ hres r1
    have q1' : (Go.results fn a'.tmps).run X.P w' = .ok u w' := by
      rw [← q1]
      unfold Go.results
      rw [Array.mapM_eq_mapM_toList]
      simp only [Sem.run_bind, Sem.run_map]
      cases (List.mapM (m := Sem) (fun | .tmp t => pure (a'.tmps.getD t undef) | .cell b t => do loadVar t (← asAddr (a'.tmps.getD b undef))) fn.results.toList).run X.P w' <;> rfl
    have R2 : Rel ⟨[], [], s.h⟩ [(v0, u)] a' w' g2 := q2.ext (fun t tv ht => by cases ht) (fun t cs ht => by cases ht) q3.symm
    obtain ⟨g3, R3, q6⟩ := R2.frzIf ⟨X.pure f, []⟩ (X.frz f)
    exact ⟨r3, u, q1', u, g3, a', s.h, rfl, R3, (r2.trans q4).trans q6, frz_ret _ q5, hh.1, hh.2⟩
  refine calls_of_wp hfn hbody (kont_ok c _ _ _ w g hok.2.1 (by simp; omega) R0 hk _ (fun ch a w hq => ?_) (fun a' w' g' s' r1 r2 r3 r4 hr => post a' w' g' s' .nrm (fun j h => by cases h) r1 r2 r3 hr) fun a' w' g' s' r1 r2 r3 r4 hr => post a' w' g' s' .ret (fun j h => by cases h) r1 r2 r3 hr)
  obtain ⟨_, u, g', a', hf, h1, _⟩ := hq
  cases h1
theorem body_ok (hm : X.P.follows .mixedOrders = true) {call : CallF} (hcall : CallOk X call) {k : Nat} {f : FuncId} {args : List TV} {h : Heap} {v : TV} {h' : Heap} (hb : evBody X call (itK k) f args h = some (v, h')) :
    (∃ fn, X.P.funcs[f]? = some fn ∧ (fn.name == "runtime.NumGoroutine") = false ∧ fn.body.isNone = false) ∧
    ∀ (w : World) (g : Gh) (a0 : Act) (us : Array Value), us.size = args.length → (∀ (i : Nat) u, us[i]? = some u → a0.tmps.getD i undef = u) → Rel ⟨number 0 args, [], h⟩ [] a0 w g → Glob X w g →
      Calls X.P f us w fun e w' => ∃ u g' a' hf, e = .returned u ∧ Rel ⟨[], [], hf⟩ [(v, u)] a' w' g' ∧ Le ⟨X.pure f, []⟩ w g w' g' ∧ retOkT v = true ∧ (X.pure f = true → h' = h ∧ hf.length = h.length) ∧ (X.pure f = false → hf = h') := by
  unfold evBody at hb
  split at hb
  rotate_left
  · cases hb
  rename_i fn hfn
  split at hb
  rotate_left
  · cases hb
  rename_i c hbody
  split at hb
  rotate_left
  · exact body2_ok hfn hbody hb
  rename_i hok
  have hb0 := hb
  clear hb
  obtain ⟨v0, hv0, hb⟩ : ∃ v0, v = frzIf (X.frz f) v0 ∧ bodyF X.P (X.pure f) h fn.results.toList (evC X ⟨X.pure f, []⟩ call (itK k) f c { t := number 0 args, l := [], h := h }) = some (v0, h') := by
    cases hq : bodyF X.P (X.pure f) h fn.results.toList (evC X ⟨X.pure f, []⟩ call (itK k) f c { t := number 0 args, l := [], h := h }) with
    | none => rw [hq] at hb0; cases hb0
    | some q => rw [hq] at hb0; cases hb0; exact ⟨q.1, rfl, rfl⟩
  clear hb0
  subst hv0
  simp only [okBody, Bool.and_eq_true] at hok
  refine ⟨⟨fn, hfn, by have := hok.1; simp only [bne, Bool.not_eq_true'] at this; exact this, by rw [hbody]; rfl⟩, fun w g a0 us hsz hus R GL => ?_⟩
  obtain ⟨e, s, he, hne, hr⟩ : ∃ e s, evC X ⟨X.pure f, []⟩ call (itK k) f c { t := number 0 args, l := [], h := h } = some (e, s) ∧ (∀ j, e ≠ .exit j) ∧ bodyF X.P (X.pure f) h fn.results.toList (some (e, s)) = some (v0, h') := by
    cases hq : evC X ⟨X.pure f, []⟩ call (itK k) f c { t := number 0 args, l := [], h := h } with
    | none => rw [hq] at hb; cases hb
    | some q =>
      obtain ⟨e, s⟩ := q
      rw [hq] at hb
      exact ⟨e, s, rfl, fun j ej => (by subst ej; cases hb), hb⟩
  obtain ⟨hres, hh⟩ : Abs.results X.P fn.results.toList s = some v0 ∧ ((X.pure f = true → h' = h ∧ s.h.length = h.length) ∧ (X.pure f = false → s.h = h')) := by
    have hr' : (match Abs.results X.P fn.results.toList s with
      | some v => if X.pure f then (if s.h.length = h.length then some (v, h) else none) else some (v, s.h)
      | none => none) = some (v0, h') := by
      cases e with
      | exit j => exact absurd rfl (hne j)
      | nrm => exact hr
      | ret => exact hr
    cases hq : Abs.results X.P fn.results.toList s with
    | none => rw [hq] at hr'; cases hr'
    | some v1 =>
      rw [hq] at hr'
      simp only at hr'
      cases hp : X.pure f with
      | true =>
        rw [hp] at hr'
        simp only [if_true] at hr'
        split at hr'
        · rename_i hl; cases hr'; exact ⟨rfl, fun _ => ⟨rfl, hl⟩, fun h => (by cases h)⟩
        · cases hr'
      | false =>
        rw [hp] at hr'
        simp only [Bool.false_eq_true, if_false] at hr'
        cases hr'
        exact ⟨rfl, fun h => (by cases h), fun _ => rfl⟩
  have ha : ∀ t tv, find t (number 0 args) = some tv → (us ++ Array.replicate (fn.ntmps - us.size) undef).getD t undef = a0.tmps.getD t undef := fun t tv ht => by
    obtain ⟨_, h1⟩ := find_number args 0 t tv ht
    rw [Nat.sub_zero] at h1
    have hlt : t < us.size := by rw [hsz]; exact (List.getElem?_eq_some_iff.1 h1).1
    rw [hus t us[t] (by simp [hlt])]
    simp [Array.getD_eq_getD_getElem?, Array.getElem?_append_left hlt, hlt]
  have R0 : Rel ⟨number 0 args, [], h⟩ [] { tmps := us ++ Array.replicate (fn.ntmps - us.size) undef, defers := [] } w g := R.act ha
  refine calls_of_wp hfn hbody (code_ok hm hcall c _ _ w g e s hok.2.1 (by simp; omega) R0 (fun _ => GL) he _ (fun ch a w hq => ?_) fun a' w' g' r1 r2 r3 r4 => ?_)
  · obtain ⟨_, u, g', a', hf, h1, _⟩ := hq
    cases h1
  · obtain ⟨u, s2, g2, q1, q2, q3, q4, q5⟩ := results_ok ⟨X.pure f, []⟩ hres r1
    have q1' : (Go.results fn a'.tmps).run X.P w' = .ok u w' := by
      rw [← q1]
      unfold Go.results
      rw [Array.mapM_eq_mapM_toList]
      simp only [Sem.run_bind, Sem.run_map]
      cases (List.mapM (m := Sem) (fun | .tmp t => pure (a'.tmps.getD t undef) | .cell b t => do loadVar t (← asAddr (a'.tmps.getD b undef))) fn.results.toList).run X.P w' <;> rfl
    have R2 : Rel ⟨[], [], s.h⟩ [(v0, u)] a' w' g2 := q2.ext (fun t tv ht => by cases ht) (fun t cs ht => by cases ht) q3.symm
    obtain ⟨g3, R3, q6⟩ := R2.frzIf ⟨X.pure f, []⟩ (X.frz f)
    have post : a'.defers = [] ∧ ∃ v_1, (Go.results fn a'.tmps).run X.P w' = .ok v_1 w' ∧ ∃ u g' a' hf, Ending.returned v_1 = .returned u ∧ Rel ⟨[], [], hf⟩ [(frzIf (X.frz f) v0, u)] a' w' g' ∧ Le ⟨X.pure f, []⟩ w g w' g' ∧ retOkT (frzIf (X.frz f) v0) = true ∧ (X.pure f = true → h' = h ∧ hf.length = h.length) ∧ (X.pure f = false → hf = h') :=
      ⟨r3, u, q1', u, g3, a', s.h, rfl, R3, (r2.trans q4).trans q6, frz_ret _ q5, hh.1, hh.2⟩
    cases e with
    | exit j => exact absurd rfl (hne j)
    | nrm => exact post
    | ret => exact post
end
end Go.Proofs.Abs
/- A function that is told over no objects: those of its callers are another's. -/
namespace Go.Proofs.Abs
open Go
set_option linter.unusedVariables false
set_option linter.unusedSimpArgs false

section
variable {X : Cx} {pu : Pu} {s s' : St} {a : Act} {w : World} {g : Gh}
def aloneW : Ow → Ow
  | .shared => .shared
  | _ => .ext
/-- all is another's -/
def aloneG (g : Gh) : Gh := { g with n := 0, own := fun b => aloneW (g.own b) }
theorem aloneM_inner {m : Md} (h : aloneM m = true) : aloneM m.inner = true := by
  cases m with
  | own d => cases d with
    | zero => rfl
    | succ d => cases h
  | _ => first | rfl | cases h
theorem aloneM_own {m : Md} (h : aloneM m = true) : m.owned = false := by
  cases m with
  | own d => cases d with
    | zero => rfl
    | succ d => cases h
  | _ => rfl
theorem okB_alone {m r π b e} (h : okB g m r π b e) (hm : aloneM m = true) : okB (aloneG g) m r π b e := by
  cases m with
  | top => exact h
  | own d => cases d with
    | zero =>
      have h : g.own b = .shared := h
      show aloneW (g.own b) = .shared
      rw [h]; rfl
    | succ d => cases hm
  | ro =>
    show aloneW (g.own b) = _ ∨ aloneW (g.own b) = _
    rcases h with h | h
    · left; rw [h]; rfl
    · right; rw [h]; rfl
  | bl =>
    show aloneW (g.own b) = _ ∨ aloneW (g.own b) = _ ∨ _
    rcases h with h | h | ⟨r, π, h, _⟩
    · left; rw [h]; rfl
    · right; left; rw [h]; rfl
    · right; left; rw [h]; rfl
  | bh => cases hm
theorem np_sl {k z xs} (h : AV.np k (.sl z xs) = true) : ∃ j, k = j + 1 ∧ ∀ x, x ∈ xs → ∀ c, c ∈ x → AV.np j c = true := by
  cases k with
  | zero => cases h
  | succ j =>
    refine ⟨j, rfl, fun x hx c hc => ?_⟩
    have h : (xs.all fun x => x.all (AV.np j)) = true := h
    exact List.all_eq_true.1 (List.all_eq_true.1 h x hx) c hc
theorem np_ptr {k id off} : AV.np k (.ptr (.at id off)) = false := by cases k <;> rfl
/-- a value without pointers, seen over no objects -/
theorem KC.aloneIn {m r π c v} (h : KC w g m r π c v) : ∀ k, aloneM m = true → AV.np k c = true → KC w (aloneG g) m r π c v := by
  induction h with
  | junk h => intros; exact .junk h
  | bool => intros; exact .bool
  | int => intros; exact .int
  | str => intros; exact .str
  | nilp => intros; exact .nilp
  | obj h => intro k _ hn; rw [np_ptr] at hn; cases hn
  | nil hm => intros; exact .nil hm
  | emp hm ho => intros; exact .emp hm ho
  | @sl m r π z xs b o cap vs hb hok hz hcap room hc hr ih =>
    intro k hm hn
    obtain ⟨j, rfl, hn'⟩ := np_sl hn
    exact .sl vs hb (okB_alone hok hm) hz hcap (fun h => by rw [aloneM_own hm] at h; cases h) hc fun i x j' a h1 h2 => ih i x j' a h1 h2 j (aloneM_inner hm) (hn' x (List.mem_of_getElem? h1) a (List.mem_of_getElem? h2))
theorem RC.aloneIn {m r π c v} (h : RC w g m r π c v) (hm : aloneA m c = true) (hn : AV.np 4 c = true) : RC w (aloneG g) m r π c v := by
  rcases h with h | h
  · cases hs : c with
    | sl z xs => rw [hs] at h hn hm; exact .inl (h.aloneIn 4 hm hn)
    | junk => exact .inl (.junk h.oneCell)
    | bool b => rw [hs] at h; cases h; exact .inl .bool
    | int k n => rw [hs] at h; cases h; exact .inl .int
    | str s => rw [hs] at h; cases h; exact .inl .str
    | ptr p =>
      rw [hs] at h hn
      cases h with
      | nilp => exact .inl .nilp
      | obj => cases hn
    | loc t off => rw [hs] at hn; cases hn
    | el r i off => rw [hs] at hn; cases hn
    | rd mo mi cs off => rw [hs] at hn; cases hn
    | at_ r lo n => rw [hs] at hn; cases hn
    | it s pos => rw [hs] at hn; cases hn
  · cases h <;> cases hn

/-- behind it: what lay there is as it was -/
def aloneN : Ow → Ow
  | .pth (.lim 0) π => .pth (.lim 0) π
  | _ => .shared
def aloneB (w : World) (g g' : Gh) : Gh := { n := g.n, φ := g.φ, ψ := g.ψ, own := fun b => if b < w.heap.size then g.own b else aloneN (g'.own b), fr := fun b => if b < w.heap.size then g.fr b else g'.fr b, hd := g.hd }
theorem alone_keep {w' g'} (L : Le ⟨false, []⟩ w (aloneG g) w' g') {b} (hb : b < w.heap.size) : w'.heap[b]? = w.heap[b]? ∧ g'.own b = aloneW (g.own b) := by
  obtain ⟨h1, h2, _⟩ := L.keep b hb (by
    show aloneW (g.own b) = _ ∨ aloneW (g.own b) = _ ∨ _
    cases g.own b <;> simp [aloneW])
  exact ⟨h1, h2⟩
theorem aloneB_own {g' b} (hb : b < w.heap.size) : (aloneB w g g').own b = g.own b := by simp [aloneB, hb]
theorem aloneB_new {g' b} (hb : ¬ b < w.heap.size) : (aloneB w g g').own b = aloneN (g'.own b) := by simp [aloneB, hb]
theorem chg_alone {w' g'} (L : Le ⟨false, []⟩ w (aloneG g) w' g') : Chg (fun _ _ => True) true true w g w' (aloneB w g g') := by
  have hfr : ∀ b, b < w.heap.size → (aloneB w g g').fr b = g.fr b := fun b hb => by simp [aloneB, hb]
  refine ⟨L.size, Nat.le_refl _, fun _ _ => rfl, fun _ _ _ h => h, fun b hb h => ⟨aloneB_own hb, fun o _ => cel_heap (alone_keep L hb).1 o⟩, fun b r π hb h _ => ⟨(aloneB_own hb).trans h, hfr b hb, fun o _ => cel_heap (alone_keep L hb).1 o, fun o hf => free_heap (alone_keep L hb).1 hf⟩,
    fun _ b r π hb h hr => ⟨.inr ⟨r, π, (aloneB_own hb).trans h, hr, by rw [hfr b hb]; exact Nat.le_refl _⟩, fun o _ _ => cel_heap (alone_keep L hb).1 o⟩, fun _ b r π hb h hr => ⟨.inr ⟨r, π, (aloneB_own hb).trans h, hr, by rw [hfr b hb]; exact Nat.le_refl _⟩, fun o _ _ => cel_heap (alone_keep L hb).1 o⟩, fun _ _ b hb h => ⟨(aloneB_own hb).trans h, (alone_keep L hb).1⟩⟩
theorem le_alone {w' g'} (L : Le ⟨false, []⟩ w (aloneG g) w' g') : Le pu w g w' (aloneB w g g') := by
  refine ⟨L.size, fun b hb _ => ⟨(alone_keep L hb).1, aloneB_own hb, (by simp only [aloneB, hb, if_true])⟩, fun b h1 h2 => ?_, fun b hb h => by rw [aloneB_own hb] at h; exact h, Nat.le_refl _, fun _ _ => rfl, L.os, L.tape, L.out⟩
  rw [aloneB_new (by omega)]
  unfold aloneN
  split <;> simp
/-- the answer, seen from where it was asked -/
theorem okB_aloneOut {w' g' m r π b e} (L : Le ⟨false, []⟩ w (aloneG g) w' g') (hr : r = .lim 0) (h : okB g' m r π b e) (hm : m = .top ∨ ∃ d, m = .own d) : okB (aloneB w g g') m r π b e := by
  subst hr
  rcases hm with rfl | ⟨d, rfl⟩
  · exact h
  · cases d with
    | zero =>
      have h : g'.own b = .shared := h
      show (aloneB w g g').own b = .shared
      by_cases hb : b < w.heap.size
      · rw [aloneB_own hb]
        have := (alone_keep L hb).2
        rw [h] at this
        cases hg : g.own b <;> rw [hg] at this <;> first | rfl | cases this
      · rw [aloneB_new hb, h]; rfl
    | succ d =>
      obtain ⟨h1, h2⟩ := h
      have hb : ¬ b < w.heap.size := fun hb => by
        have := (alone_keep L hb).2
        rw [h1] at this
        cases hg : g.own b <;> rw [hg] at this <;> cases this
      exact ⟨by rw [aloneB_new hb, h1]; rfl, by simp only [aloneB, hb, if_false]; exact h2⟩
theorem KC.aloneOut {w' g' m r π c v} (L : Le ⟨false, []⟩ w (aloneG g) w' g') (h : KC w' g' m r π c v) : ∀ k, r = .lim 0 → (m = .top ∨ ∃ d, m = .own d) → AV.np k c = true → KC w' (aloneB w g g') m r π c v := by
  induction h with
  | junk h => intros; exact .junk h
  | bool => intros; exact .bool
  | int => intros; exact .int
  | str => intros; exact .str
  | nilp => intros; exact .nilp
  | obj h => intro k _ _ hn; rw [np_ptr] at hn; cases hn
  | nil hm => intros; exact .nil hm
  | emp hm ho => intros; exact .emp hm ho
  | @sl m r π z xs b o cap vs hb hok hz hcap room hc hr ih =>
    intro k hl hm hn
    obtain ⟨j, rfl, hn'⟩ := np_sl hn
    refine .sl vs hb (okB_aloneOut L hl hok hm) hz hcap room hc fun i x j' a h1 h2 => ih i x j' a h1 h2 j hl ?_ (hn' x (List.mem_of_getElem? h1) a (List.mem_of_getElem? h2))
    rcases hm with rfl | ⟨d, rfl⟩
    · exact .inl rfl
    · right
      cases d with
      | zero => exact ⟨0, rfl⟩
      | succ d => exact ⟨d, rfl⟩
theorem RC.aloneOut {w' g' π} {c : MC} {v} (L : Le ⟨false, []⟩ w (aloneG g) w' g') (h : RC w' g' c.1 (.lim 0) π c.2 v) (hr : retOk c = true) (hn : aloneC c = true) : RC w' (aloneB w g g') c.1 (.lim 0) π c.2 v := by
  obtain ⟨m, c⟩ := c
  have hnp : AV.np 4 c = true := by
    unfold aloneC at hn
    split at hn
    · cases hn
    · exact hn
  rcases h with h | h
  · by_cases hm : m = .top ∨ ∃ d, m = .own d
    · exact .inl (h.aloneOut L 4 rfl hm hnp)
    · cases c with
      | sl z xs =>
        cases m with
        | top => exact absurd (.inl rfl) hm
        | own d => exact absurd (.inr ⟨d, rfl⟩) hm
        | bh => cases hn
        | ro => cases hr
        | bl => cases hr
      | junk => exact .inl (.junk h.oneCell)
      | bool b => cases h; exact .inl .bool
      | int k n => cases h; exact .inl .int
      | str s => cases h; exact .inl .str
      | ptr p =>
        cases h with
        | nilp => exact .inl .nilp
        | obj => cases hnp
      | loc t off => cases hnp
      | el r i off => cases hnp
      | rd mo mi cs off => cases hnp
      | at_ r lo n => cases hnp
      | it s pos => cases hnp
  · cases h <;> cases hnp
theorem RT1.aloneOut {w' g' π tv v} (L : Le ⟨false, []⟩ w (aloneG g) w' g') (h : RT1 w' g' (.lim 0) π tv v) (hr : ∀ c, c ∈ all1 tv → retOk c = true ∧ aloneC c = true) : RT1 w' (aloneB w g g') (.lim 0) π tv v := by
  cases tv with
  | one m a => exact RC.aloneOut (c := (m, a)) L h (hr _ (by simp [all1])).1 (hr _ (by simp [all1])).2
  | agg cs =>
    obtain ⟨vs, hv, h⟩ := h
    refine ⟨vs, hv, h.map rfl fun j c c' v hc hc' hk => ?_⟩
    rw [hc] at hc'; cases hc'
    exact hk.aloneOut L (hr c (List.mem_of_getElem? hc)).1 (hr c (List.mem_of_getElem? hc)).2
  | tup vs => cases vs with
    | nil => exact h
    | cons x xs => exact h.elim
theorem RT.aloneOut {w' g' tv v} (L : Le ⟨false, []⟩ w (aloneG g) w' g') (h : RT w' g' (.lim 0) tv v) (hr : retOkT tv = true) (hn : tv.all.all aloneC = true) : RT w' (aloneB w g g') (.lim 0) tv v := by
  have hr' : ∀ c, c ∈ tv.all → retOk c = true ∧ aloneC c = true := fun c hc => ⟨List.all_eq_true.1 hr c hc, List.all_eq_true.1 hn c hc⟩
  cases tv with
  | one m a => exact RT1.aloneOut (tv := .one m a) L h hr'
  | agg cs => exact RT1.aloneOut (tv := .agg cs) L h hr'
  | tup tvs =>
    obtain ⟨vs, hv, hs, h⟩ := h
    refine ⟨vs, hv, hs, fun j tv ht => ?_⟩
    obtain ⟨u, hu, hk⟩ := h j tv ht
    exact ⟨u, hu, hk.aloneOut L fun c hc => hr' c (List.mem_flatMap.2 ⟨tv, List.mem_of_getElem? ht, hc⟩)⟩

theorem Glob.alone (G : Glob X w g) : Glob X w (aloneG g) := fun b hb => by
  obtain ⟨h1, h2, m, h3⟩ := G b hb
  exact ⟨h1, by show aloneW (g.own b) = _; rw [h2]; rfl, m, h3⟩
theorem Rel.aloneIn {args : List TV} {h : Heap} (R : Rel ⟨number 0 args, [], h⟩ [] a w g) (ha : args.all aloneIn1 = true) : Rel ⟨number 0 args, [], []⟩ [] a w (aloneG g) := by
  have hfind : ∀ t tv, find t (number 0 args) = some tv → aloneIn1 tv = true := fun t tv ht => by
    obtain ⟨_, h1⟩ := find_number args 0 t tv ht
    exact List.all_eq_true.1 ha tv (List.mem_of_getElem? h1)
  refine ⟨rfl, fun i x hi => (by simp at hi), fun t tv ht => ?_, fun t cs ht => (by cases ht), fun id cs hi => (by simp at hi), fun r d z xs hr b o sp len cap hv => ?_⟩
  · have h1 := hfind t tv ht
    have h2 := R.tm t tv ht
    cases tv with
    | one m c =>
      simp only [aloneIn1, Bool.and_eq_true] at h1
      exact (show RC w g m (.tmp t) [0] c _ from h2).aloneIn h1.1 h1.2
    | agg cs =>
      obtain ⟨vs, hv, hk⟩ := h2
      refine ⟨vs, hv, hk.map rfl fun j c c' v hc hc' hq => ?_⟩
      rw [hc] at hc'; cases hc'
      have := List.all_eq_true.1 h1 c (List.mem_of_getElem? hc)
      rw [Bool.and_eq_true] at this
      exact hq.aloneIn this.1 this.2
    | tup vs => cases h1
  · cases r with
    | obj id off =>
      change cellOf off (([] : Heap)[id]?) = _ at hr
      simp [cellOf] at hr
    | loc t off => cases hr
    | tmp t =>
      change oneOf (find t (number 0 args)) = _ at hr
      cases hf : find t (number 0 args) with
      | none => rw [hf] at hr; cases hr
      | some tv =>
        rw [hf] at hr
        have h1 := hfind t tv hf
        cases tv with
        | one m c =>
          cases hr
          simp [aloneIn1, aloneA, aloneM] at h1
        | agg cs => cases hr
        | tup vs => cases hr
theorem evG_ok (hm : X.P.follows .mixedOrders = true) {call : CallF} (hcall : CallOk X call) {k : Nat} {f : FuncId} {args : List TV} {h : Heap} {v : TV} {h' : Heap} (hb : evG X call (itK k) f args h = some (v, h')) :
    (∃ fn, X.P.funcs[f]? = some fn ∧ (fn.name == "runtime.NumGoroutine") = false ∧ fn.body.isNone = false) ∧
    ∀ (w : World) (g : Gh) (a0 : Act) (us : Array Value), us.size = args.length → (∀ (i : Nat) u, us[i]? = some u → a0.tmps.getD i undef = u) → Rel ⟨number 0 args, [], h⟩ [] a0 w g → Glob X w g →
      Calls X.P f us w fun e w' => ∃ u g' a' hf, e = .returned u ∧ Rel ⟨[], [], hf⟩ [(v, u)] a' w' g' ∧ Le ⟨X.leaves f, []⟩ w g w' g' ∧ retOkT v = true ∧ (X.leaves f = true → h' = h ∧ hf.length = h.length) ∧ (X.leaves f = false → hf = h') := by
  unfold evG at hb
  cases ha : X.alone f with
  | false =>
    rw [ha] at hb
    rw [show X.leaves f = X.pure f by simp [Cx.leaves, ha]]
    exact body_ok hm hcall hb
  | true =>
    rw [ha] at hb
    rw [show X.leaves f = true by simp [Cx.leaves, ha]]
    simp only [cond_true] at hb
    unfold aloneO at hb
    split at hb
    rotate_left
    · cases hb
    rename_i v0 h0 hq
    split at hb
    rotate_left
    · cases hb
    rename_i hc
    obtain ⟨c1, c2⟩ := hc
    cases hb
    obtain ⟨e1, e2⟩ := body_ok hm hcall hq
    refine ⟨e1, fun w g a0 us hsz hus R GL => (e2 w (aloneG g) a0 us hsz hus (R.aloneIn c1) GL.alone).mono fun e w' hx => ?_⟩
    obtain ⟨u, g', a', hf, rfl, r1, r2, r3, r4⟩ := hx
    have L : Le ⟨false, []⟩ w (aloneG g) w' g' := by
      cases hp : X.pure f with
      | false => rw [hp] at r2; exact r2
      | true =>
        rw [hp] at r2
        exact ⟨r2.size, fun b hb hs => r2.keep b hb (by
          rcases hs with h | h | ⟨h, _⟩ | ⟨t, h, _⟩
          · exact .inl h
          · exact .inr (.inl h)
          · cases h
          · cases h), r2.new, r2.ext, r2.n, r2.ids, r2.os, r2.tape, r2.out⟩
    have C := chg_alone L
    refine ⟨u, aloneB w g g', a', h, rfl, ⟨R.n, fun i x hi => ?_, fun t tv ht => (by cases ht), fun t cs ht => (by cases ht), fun id cs hi => (R.hp id cs hi).chg C (by rw [R.n]; exact (List.getElem?_eq_some_iff.1 hi).1) fun _ => trivial, fun r d z xs hr b o sp len cap hv => ?_⟩, le_alone L, r3, fun _ => ⟨rfl, rfl⟩, fun h => by cases h⟩
    · rw [List.getElem?_singleton] at hi
      split at hi
      · rename_i e; subst e; cases hi
        exact RT.aloneOut L (r1.fl 0 _ rfl) r3 c2
      · cases hi
    · cases r with
      | tmp t => cases hr
      | loc t off => cases hr
      | obj id off =>
        refine (show g.hd (.obj id off) = _ from R.hd (.obj id off) d z xs hr b o sp len cap ?_)
        change cellOf off h[id]? = _ at hr
        cases hs : h[id]? with
        | none => rw [hs] at hr; cases hr
        | some cs =>
          rw [hs] at hr
          have hB := R.hp id cs hs
          obtain ⟨x, h1, h2, h3⟩ := hB.cell off _ hr
          have hv : cel w' (g.φ id) off = _ := hv
          rw [cel_heap (alone_keep L hB.blk).1 off] at hv
          exact hv
/-- the contracts hold -/
def CtOk (X : Cx) : Prop := CallOk X fun f args h => ctO h none (X.ct f args)
theorem evF_ok (hm : X.P.follows .mixedOrders = true) (hct : CtOk X) : ∀ k, CallOk X (evF X k)
  | 0, f, args, h, v, h', he => by cases he
  | k + 1, f, args, h, v, h', he => by
    simp only [evF] at he
    cases hc : X.ct f args with
    | none => rw [hc] at he; exact evG_ok hm (evF_ok hm hct k) he
    | some u => rw [hc] at he; exact hct f args h v h' (by simp only [hc]; exact he)
end
end Go.Proofs.Abs
/- Without fuel: what a function answers, if it does at all. -/
namespace Go.Proofs.Abs
open Go
set_option linter.unusedVariables false
set_option linter.unusedSimpArgs false

section
variable {X : Cx} {pu : Pu} {st : Bool} {s s' : St}

def CLe (c c' : CallF) : Prop := ∀ f args h r, c f args h = some r → c' f args h = some r
def FLe (f f' : St → Option (Ex × St)) : Prop := ∀ s r, f s = some r → f' s = some r
def ILe (i i' : It) : Prop := ∀ f f', FLe f f' → ∀ s r, i f s = some r → i' f' s = some r

theorem evOp_mono {c c' : CallF} (hc : CLe c c') {hint : Hint} {o : Oper} (h : evOp X pu c hint o s = some s') : evOp X pu c' hint o s = some s' := by
  obtain ⟨dst, op, type, pos, after, guard⟩ := o
  unfold evOp at h ⊢
  split at h <;> try exact h
  rename_i f args ats
  simp only at h ⊢
  unfold callF0 at h ⊢
  split at h
  · unfold callF at h ⊢
    split at h
    · split at h
      · cases h
      · rename_i hn
        rw [if_neg hn]
        unfold retF at h
        split at h
        · rename_i he
          rw [hc _ _ _ _ he]; exact h
        · cases h
    · cases h
  · cases h
theorem fzO_map {b : Bool} {d : Option Tmp} {q q' : Option St} {r : St} (hq : ∀ s, q = some s → q' = some s) (h : fzO b d q = some r) : fzO b d q' = some r := by
  obtain ⟨s0, h1, _⟩ := fzO_inv h
  rw [hq s0 h1, ← h1]; exact h
theorem evOpZ_mono {c c' : CallF} (hc : CLe c c') {hint : Hint} {o : Oper} (h : evOpZ X pu c hint o s = some s') : evOpZ X pu c' hint o s = some s' := fzO_map (fun _ h => evOp_mono hc h) h
theorem stepA_mono {c c' : CallF} (hc : CLe c c') {hint : Hint} {o : Oper} {q} (h : stepA X pu c hint o s q = some s') : stepA X pu c' hint o s q = some s' := by
  unfold stepA at h ⊢
  split at h
  · exact evOpZ_mono hc h
  · exact h
  · cases h
theorem evOps_mono {c c' : CallF} (hc : CLe c c') {fn id : Nat} {ops : List Oper} : ∀ (l : List Oper) (i : Nat) (s : St), evOps X pu c fn id ops i l (some s) = some s' → evOps X pu c' fn id ops i l (some s) = some s'
  | [], i, s, h => h
  | o :: l, i, s, h => by
    simp only [evOps] at h ⊢
    cases hs : stepA X pu c (X.hint fn id i) o s (wantA ops s o.guard) with
    | none => rw [hs, evOps_none] at h; cases h
    | some s1 =>
      rw [hs] at h
      rw [stepA_mono hc hs]
      exact evOps_mono hc l (i + 1) s1 h
theorem stepI_mono {c c' : CallF} (hc : CLe c c') {fn id i : Nat} {ops : List Oper} (h : stepI X pu c fn id ops i (some s) = some s') : stepI X pu c' fn id ops i (some s) = some s' := by
  simp only [stepI] at h ⊢
  split at h
  · exact stepA_mono hc h
  · cases h
theorem takeI_mono {c c' : CallF} (hc : CLe c c') {fn id i : Nat} {ops : List Oper} (h : takeI X pu st c fn id ops i (some s) = some s') : takeI X pu st c' fn id ops i (some s) = some s' := by
  simp only [takeI] at h ⊢
  split at h
  · unfold takeA at h ⊢
    split at h
    · split at h
      · rename_i hq; rw [if_pos hq]; exact evOpZ_mono hc h
      · cases h
    · exact h
    · cases h
  · cases h
theorem evSch_mono {c c' : CallF} (hc : CLe c c') {fn id : Nat} {ops : List Oper} : ∀ (sch : Sch) (s : St), evSch X pu st c fn id ops sch (some s) = some s' → evSch X pu st c' fn id ops sch (some s) = some s'
  | .done, s, h => h
  | .take i n, s, h => by
    simp only [evSch] at h ⊢
    cases hs : takeI X pu st c fn id ops i (some s) with
    | none => rw [hs, Abs.evSch_none] at h; cases h
    | some s1 => rw [hs] at h; rw [takeI_mono hc hs]; exact evSch_mono hc n s1 h
  | .last i n, s, h => by
    simp only [evSch] at h ⊢
    cases hs : stepI X pu c fn id ops i (some s) with
    | none => rw [hs, Abs.evSch_none] at h; cases h
    | some s1 => rw [hs] at h; rw [stepI_mono hc hs]; exact evSch_mono hc n s1 h
  | .alt i n r, s, h => by
    simp only [evSch] at h ⊢
    obtain ⟨h1, h2⟩ := agree_inv h
    cases hs : stepI X pu c fn id ops i (some s) with
    | none => rw [hs, Abs.evSch_none] at h1; cases h1
    | some s1 =>
      rw [hs] at h1
      rw [stepI_mono hc hs, evSch_mono hc n s1 h1, evSch_mono hc r s h2, agree_same]
theorem evC_mono {c c' : CallF} (hc : CLe c c') {it it' : It} (hi : ILe it it') {fn : Nat} : ∀ (code : Code) (s : St) r, evC X pu c it fn code s = some r → evC X pu c' it' fn code s = some r
  | .skip, s, r, h => h
  | .region id ops dr, s, r, h => by
    obtain ⟨e, s'⟩ := r
    simp only [evC] at h ⊢
    obtain ⟨s1, h1, rfl, rfl⟩ := endR_inv h
    cases dr with
    | false =>
      simp only [Bool.false_eq_true, if_false] at h1 ⊢
      rw [evOps_mono hc _ _ _ h1]; rfl
    | true =>
      simp only [if_true] at h1 ⊢
      rw [evSch_mono hc _ _ h1]; rfl
  | .seq a b, s, r, h => by
    simp only [evC] at h ⊢
    cases ha : evC X pu c it fn a s with
    | none => rw [ha] at h; cases h
    | some q =>
      rw [ha] at h
      rw [evC_mono hc hi a s q ha]
      obtain ⟨e, s1⟩ := q
      cases e with
      | nrm => exact evC_mono hc hi b s1 r h
      | exit id => exact h
      | ret => exact h
  | .cond x a b, s, r, h => by
    simp only [evC] at h ⊢
    unfold condF at h ⊢
    split at h
    · rename_i m t ht
      cases t with
      | true => exact evC_mono hc hi a _ r h
      | false => exact evC_mono hc hi b _ r h
    · cases h
  | .block id x, s, r, h => by
    simp only [evC] at h ⊢
    cases ha : evC X pu c it fn x s with
    | none => rw [ha] at h; cases h
    | some q =>
      rw [ha] at h
      rw [evC_mono hc hi x s q ha]; exact h
  | .loop x, s, r, h => hi _ _ (fun s r h => evC_mono hc hi x s r h) s r h
  | .scope x, s, r, h => evC_mono hc hi x s r h
  | .exit id, s, r, h => h
  | .ret, s, r, h => h
  | .label _, s, r, h => by cases h
  | .goto _, s, r, h => by cases h
theorem iter_mono {f f' : St → Option (Ex × St)} (hf : FLe f f') : ∀ (j j' : Nat) (s : St) r, j ≤ j' → iter f j s = some r → iter f' j' s = some r
  | 0, j', s, r, hj, h => by cases h
  | j + 1, 0, s, r, hj, h => by omega
  | j + 1, j' + 1, s, r, hj, h => by
    simp only [iter] at h ⊢
    cases hs : f s with
    | none => rw [hs] at h; cases h
    | some q =>
      rw [hs] at h
      rw [hf s q hs]
      obtain ⟨e, s1⟩ := q
      cases e with
      | nrm => exact iter_mono hf j j' s1 r (by omega) h
      | exit id => exact h
      | ret => exact h
theorem itK_mono {k k' : Nat} (h : k ≤ k') : ILe (itK k) (itK k') := fun f f' hf s r hr => iter_mono hf k k' s r h hr
theorem evBody_mono {c c' : CallF} (hc : CLe c c') {it it' : It} (hi : ILe it it') {f args h r} (hb : evBody X c it f args h = some r) : evBody X c' it' f args h = some r := by
  unfold evBody at hb ⊢
  split at hb
  · split at hb
    · split at hb
      · rename_i hok
        rw [if_pos hok]
        cases hq : evC X ⟨X.pure f, []⟩ c it f _ { t := number 0 args, l := [], h := h } with
        | none => rw [hq] at hb; cases hb
        | some q => rw [hq] at hb; rw [evC_mono hc hi _ _ q hq]; exact hb
      · rename_i hok
        rw [if_neg hok]; exact hb
    · cases hb
  · cases hb
theorem evG_mono {c c' : CallF} (hc : CLe c c') {it it' : It} (hi : ILe it it') {f args h r} (hb : evG X c it f args h = some r) : evG X c' it' f args h = some r := by
  unfold evG at hb ⊢
  cases ha : X.alone f with
  | false => rw [ha] at hb; exact evBody_mono hc hi hb
  | true =>
    rw [ha] at hb
    simp only [cond_true] at hb ⊢
    cases hq : evBody X c it f args [] with
    | none => rw [hq] at hb; cases hb
    | some q => rw [hq] at hb; rw [evBody_mono hc hi hq]; exact hb
theorem evF_mono : ∀ (k k' : Nat), k ≤ k' → CLe (evF X k) (evF X k')
  | 0, k', hk, f, args, h, r, he => by cases he
  | k + 1, 0, hk, f, args, h, r, he => by omega
  | k + 1, k' + 1, hk, f, args, h, r, he => by
    simp only [evF] at he ⊢
    cases hc : X.ct f args with
    | none => rw [hc] at he; exact evG_mono (evF_mono k k' (by omega)) (itK_mono (by omega)) he
    | some u => rw [hc] at he; exact he

/-! ### the limits -/
open Classical in
noncomputable def evS (X : Cx) : CallF := fun f args h => if hk : ∃ r k, evF X k f args h = some r then some hk.choose else none
open Classical in
noncomputable def iterS : It := fun f s => if hk : ∃ r k, iter f k s = some r then some hk.choose else none
theorem evS_inv {f args h r} (he : evS X f args h = some r) : ∃ k, evF X k f args h = some r := by
  unfold evS at he
  split at he
  · rename_i hk
    cases he
    exact hk.choose_spec
  · cases he
theorem evS_of {f args h r k} (he : evF X k f args h = some r) : evS X f args h = some r := by
  have hk : ∃ r k, evF X k f args h = some r := ⟨r, k, he⟩
  unfold evS
  rw [dif_pos hk]
  obtain ⟨k', hk'⟩ := hk.choose_spec
  have h1 := evF_mono k (max k k') (Nat.le_max_left _ _) _ _ _ _ he
  have h2 := evF_mono k' (max k k') (Nat.le_max_right _ _) _ _ _ _ hk'
  rw [h1] at h2
  exact h2.symm
theorem iterS_inv {f s r} (he : iterS f s = some r) : ∃ k, iter f k s = some r := by
  unfold iterS at he
  split at he
  · rename_i hk
    cases he
    exact hk.choose_spec
  · cases he
theorem iterS_of {f s r k} (he : iter f k s = some r) : iterS f s = some r := by
  have hk : ∃ r k, iter f k s = some r := ⟨r, k, he⟩
  unfold iterS
  rw [dif_pos hk]
  obtain ⟨k', hk'⟩ := hk.choose_spec
  have h1 := iter_mono (fun _ _ h => h) k (max k k') s r (Nat.le_max_left _ _) he
  have h2 := iter_mono (fun _ _ h => h) k' (max k k') s _ (Nat.le_max_right _ _) hk'
  rw [h1] at h2
  exact h2.symm
theorem iterS_nrm {f : St → Option (Ex × St)} {s s1 r} (h : f s = some (.nrm, s1)) (h1 : iterS f s1 = some r) : iterS f s = some r := by
  obtain ⟨k, hk⟩ := iterS_inv h1
  exact iterS_of (k := k + 1) (by simp only [iter, h]; exact hk)
theorem iterS_out {f : St → Option (Ex × St)} {s e s1} (h : f s = some (e, s1)) (he : e ≠ .nrm) : iterS f s = some (e, s1) := by
  refine iterS_of (k := 1) ?_
  simp only [iter, h]
  cases e with
  | nrm => exact absurd rfl he
  | _ => rfl

/-! what the limits answer, some fuel answers -/
theorem evOp_cont {hint : Hint} {o : Oper} (h : evOp X pu (evS X) hint o s = some s') : ∃ k, evOp X pu (evF X k) hint o s = some s' := by
  obtain ⟨dst, op, type, pos, after, guard⟩ := o
  unfold evOp at h ⊢
  split at h <;> try exact ⟨0, h⟩
  rename_i f args ats
  simp only at h ⊢
  unfold callF0 at h ⊢
  split at h
  · unfold callF at h ⊢
    split at h
    · split at h
      · cases h
      · rename_i hn
        simp only [if_neg hn]
        unfold retF at h
        split at h
        · rename_i he
          obtain ⟨k, hk⟩ := evS_inv he
          exact ⟨k, by rw [hk]; exact h⟩
        · cases h
    · cases h
  · cases h
theorem evOpZ_cont {hint : Hint} {o : Oper} (h : evOpZ X pu (evS X) hint o s = some s') : ∃ k, evOpZ X pu (evF X k) hint o s = some s' := by
  obtain ⟨s0, h1, h2⟩ := fzO_inv h
  obtain ⟨k, hk⟩ := evOp_cont h1
  exact ⟨k, fzO_map (fun s hs => by rw [h1] at hs; rw [hk, hs]) h⟩
theorem stepA_cont {hint : Hint} {o : Oper} {q} (h : stepA X pu (evS X) hint o s q = some s') : ∃ k, stepA X pu (evF X k) hint o s q = some s' := by
  unfold stepA at h ⊢
  split at h
  · exact evOpZ_cont h
  · exact ⟨0, h⟩
  · cases h
theorem evOps_cont {fn id : Nat} {ops : List Oper} : ∀ (l : List Oper) (i : Nat) (s : St), evOps X pu (evS X) fn id ops i l (some s) = some s' → ∃ k, evOps X pu (evF X k) fn id ops i l (some s) = some s'
  | [], i, s, h => ⟨0, h⟩
  | o :: l, i, s, h => by
    simp only [evOps] at h ⊢
    cases hs : stepA X pu (evS X) (X.hint fn id i) o s (wantA ops s o.guard) with
    | none => rw [hs, evOps_none] at h; cases h
    | some s1 =>
      rw [hs] at h
      obtain ⟨k1, h1⟩ := stepA_cont hs
      obtain ⟨k2, h2⟩ := evOps_cont l (i + 1) s1 h
      refine ⟨max k1 k2, ?_⟩
      rw [stepA_mono (evF_mono _ _ (Nat.le_max_left _ _)) h1]
      exact evOps_mono (evF_mono _ _ (Nat.le_max_right _ _)) _ _ _ h2
theorem stepI_cont {fn id i : Nat} {ops : List Oper} (h : stepI X pu (evS X) fn id ops i (some s) = some s') : ∃ k, stepI X pu (evF X k) fn id ops i (some s) = some s' := by
  simp only [stepI] at h ⊢
  split at h
  · exact stepA_cont h
  · cases h
theorem takeI_cont {fn id i : Nat} {ops : List Oper} (h : takeI X pu st (evS X) fn id ops i (some s) = some s') : ∃ k, takeI X pu st (evF X k) fn id ops i (some s) = some s' := by
  simp only [takeI] at h ⊢
  split at h
  · unfold takeA at h ⊢
    split at h
    · split at h
      · rename_i hq; simp only [if_pos hq]; exact evOpZ_cont h
      · cases h
    · exact ⟨0, h⟩
    · cases h
  · cases h
theorem evSch_cont {fn id : Nat} {ops : List Oper} : ∀ (sch : Sch) (s : St), evSch X pu st (evS X) fn id ops sch (some s) = some s' → ∃ k, evSch X pu st (evF X k) fn id ops sch (some s) = some s'
  | .done, s, h => ⟨0, h⟩
  | .take i n, s, h => by
    simp only [evSch] at h ⊢
    cases hs : takeI X pu st (evS X) fn id ops i (some s) with
    | none => rw [hs, Abs.evSch_none] at h; cases h
    | some s1 =>
      rw [hs] at h
      obtain ⟨k1, h1⟩ := takeI_cont hs
      obtain ⟨k2, h2⟩ := evSch_cont n s1 h
      refine ⟨max k1 k2, ?_⟩
      rw [takeI_mono (evF_mono _ _ (Nat.le_max_left _ _)) h1]
      exact evSch_mono (evF_mono _ _ (Nat.le_max_right _ _)) _ _ h2
  | .last i n, s, h => by
    simp only [evSch] at h ⊢
    cases hs : stepI X pu (evS X) fn id ops i (some s) with
    | none => rw [hs, Abs.evSch_none] at h; cases h
    | some s1 =>
      rw [hs] at h
      obtain ⟨k1, h1⟩ := stepI_cont hs
      obtain ⟨k2, h2⟩ := evSch_cont n s1 h
      refine ⟨max k1 k2, ?_⟩
      rw [stepI_mono (evF_mono _ _ (Nat.le_max_left _ _)) h1]
      exact evSch_mono (evF_mono _ _ (Nat.le_max_right _ _)) _ _ h2
  | .alt i n r, s, h => by
    simp only [evSch] at h ⊢
    obtain ⟨h1, h2⟩ := agree_inv h
    cases hs : stepI X pu (evS X) fn id ops i (some s) with
    | none => rw [hs, Abs.evSch_none] at h1; cases h1
    | some s1 =>
      rw [hs] at h1
      obtain ⟨k1, q1⟩ := stepI_cont hs
      obtain ⟨k2, q2⟩ := evSch_cont n s1 h1
      obtain ⟨k3, q3⟩ := evSch_cont r s h2
      refine ⟨max k1 (max k2 k3), ?_⟩
      rw [stepI_mono (evF_mono _ _ (by omega)) q1, evSch_mono (evF_mono k2 (max k1 (max k2 k3)) (by omega)) _ _ q2, evSch_mono (evF_mono k3 (max k1 (max k2 k3)) (by omega)) _ _ q3, agree_same]
theorem iter_cont {g : Nat → St → Option (Ex × St)} {f : St → Option (Ex × St)} (hm : ∀ k k', k ≤ k' → FLe (g k) (g k')) (hc : ∀ s r, f s = some r → ∃ k, g k s = some r) : ∀ (j : Nat) (s : St) r, iter f j s = some r → ∃ k, iter (g k) j s = some r
  | 0, s, r, h => by cases h
  | j + 1, s, r, h => by
    simp only [iter] at h ⊢
    cases hs : f s with
    | none => rw [hs] at h; cases h
    | some q =>
      rw [hs] at h
      obtain ⟨k1, h1⟩ := hc s q hs
      obtain ⟨e, s1⟩ := q
      cases e with
      | nrm =>
        obtain ⟨k2, h2⟩ := iter_cont hm hc j s1 r h
        refine ⟨max k1 k2, ?_⟩
        rw [hm k1 (max k1 k2) (by omega) s _ h1]
        exact iter_mono (hm k2 (max k1 k2) (by omega)) j j s1 r (Nat.le_refl _) h2
      | exit id => exact ⟨k1, by rw [h1]; exact h⟩
      | ret => exact ⟨k1, by rw [h1]; exact h⟩
theorem evC_up {fn : Nat} {code : Code} {s r k k'} (h : k ≤ k') (he : evC X pu (evF X k) (itK k) fn code s = some r) : evC X pu (evF X k') (itK k') fn code s = some r := evC_mono (evF_mono _ _ h) (itK_mono h) code s r he
theorem evC_cont {fn : Nat} : ∀ (code : Code) (s : St) r, evC X pu (evS X) iterS fn code s = some r → ∃ k, evC X pu (evF X k) (itK k) fn code s = some r
  | .skip, s, r, h => ⟨0, h⟩
  | .region id ops dr, s, r, h => by
    obtain ⟨e, s'⟩ := r
    simp only [evC] at h ⊢
    obtain ⟨s1, h1, rfl, rfl⟩ := endR_inv h
    cases dr with
    | false =>
      simp only [Bool.false_eq_true, if_false] at h1 ⊢
      obtain ⟨k, hk⟩ := evOps_cont _ _ _ h1
      exact ⟨k, by rw [hk]; rfl⟩
    | true =>
      simp only [if_true] at h1 ⊢
      obtain ⟨k, hk⟩ := evSch_cont _ _ h1
      exact ⟨k, by rw [hk]; rfl⟩
  | .seq a b, s, r, h => by
    simp only [evC] at h
    cases ha : evC X pu (evS X) iterS fn a s with
    | none => rw [ha] at h; cases h
    | some q =>
      rw [ha] at h
      obtain ⟨k1, h1⟩ := evC_cont a s q ha
      obtain ⟨e, s1⟩ := q
      cases e with
      | nrm =>
        obtain ⟨k2, h2⟩ := evC_cont b s1 r h
        refine ⟨max k1 k2, ?_⟩
        simp only [evC]
        rw [evC_up (Nat.le_max_left k1 k2) h1]
        exact evC_up (Nat.le_max_right k1 k2) h2
      | exit id => exact ⟨k1, by simp only [evC]; rw [h1]; exact h⟩
      | ret => exact ⟨k1, by simp only [evC]; rw [h1]; exact h⟩
  | .cond x a b, s, r, h => by
    simp only [evC] at h ⊢
    unfold condF at h ⊢
    split at h
    · rename_i m t ht
      cases t with
      | true => exact evC_cont a _ r h
      | false => exact evC_cont b _ r h
    · cases h
  | .block id x, s, r, h => by
    simp only [evC] at h ⊢
    cases ha : evC X pu (evS X) iterS fn x s with
    | none => rw [ha] at h; cases h
    | some q =>
      rw [ha] at h
      obtain ⟨k, hk⟩ := evC_cont x s q ha
      exact ⟨k, by rw [hk]; exact h⟩
  | .loop x, s, r, h => by
    simp only [evC] at h ⊢
    obtain ⟨j, hj⟩ := iterS_inv h
    obtain ⟨k, hk⟩ := iter_cont (g := fun k => evC X pu (evF X k) (itK k) fn x) (fun k k' hk s r h => evC_up hk h) (fun s r h => evC_cont x s r h) j s r hj
    exact ⟨max j k, iter_mono (fun s r h => evC_up (Nat.le_max_right j k) h) j (max j k) s r (Nat.le_max_left _ _) hk⟩
  | .scope x, s, r, h => evC_cont x s r h
  | .exit id, s, r, h => ⟨0, h⟩
  | .ret, s, r, h => ⟨0, h⟩
  | .label _, s, r, h => by cases h
  | .goto _, s, r, h => by cases h
/-- **a contract is an equation** -/
theorem evS_ct {f args h v} (hc : X.ct f args = some v) : evS X f args h = some (v, h) := evS_of (k := 1) (by simp only [evF, hc]; rfl)
theorem evBody_cont {f args h r} (hb : evBody X (evS X) iterS f args h = some r) : ∃ k, evBody X (evF X k) (itK k) f args h = some r := by
  unfold evBody at hb
  split at hb
  rotate_left
  · cases hb
  rename_i fn hfn
  split at hb
  rotate_left
  · cases hb
  rename_i c hc
  split at hb
  rotate_left
  · rename_i hok
    refine ⟨0, ?_⟩
    unfold evBody
    rw [hfn]
    simp only [hc, if_neg hok]
    exact hb
  rename_i hok
  cases hq : evC X ⟨X.pure f, []⟩ (evS X) iterS f c { t := number 0 args, l := [], h := h } with
  | none => rw [hq] at hb; cases hb
  | some q =>
    rw [hq] at hb
    obtain ⟨k, hk⟩ := evC_cont c _ q hq
    refine ⟨k, ?_⟩
    unfold evBody
    rw [hfn]
    simp only [hc, hok, if_true, hk]
    exact hb
def isBody (X : Cx) (f : FuncId) (args : List TV) : Bool := (X.ct f args).isNone && !X.alone f
theorem isBody_inv {f args} (h : isBody X f args = true) : X.ct f args = none ∧ X.alone f = false := by
  simp only [isBody, Bool.and_eq_true, Bool.not_eq_true', Option.isNone_iff_eq_none] at h; exact h
def isAlone (X : Cx) (f : FuncId) (args : List TV) : Bool := (X.ct f args).isNone && X.alone f
theorem isAlone_inv {f args} (h : isAlone X f args = true) : X.ct f args = none ∧ X.alone f = true := by
  simp only [isAlone, Bool.and_eq_true, Option.isNone_iff_eq_none] at h; exact h
theorem evS_body {f args h r} (hb : evBody X (evS X) iterS f args h = some r) (hc : isBody X f args = true := by rfl) : evS X f args h = some r := by
  obtain ⟨hc, ha⟩ := isBody_inv hc
  obtain ⟨k, hk⟩ := evBody_cont hb
  exact evS_of (k := k + 1) (by simp only [evF, hc, evG, ha]; exact hk)
theorem evS_alone {f args h v h'} (hb : evBody X (evS X) iterS f args [] = some (v, h')) (hi : args.all aloneIn1 = true) (ho : v.all.all aloneC = true) (hc : isAlone X f args = true := by rfl) : evS X f args h = some (v, h) := by
  obtain ⟨hc, ha⟩ := isAlone_inv hc
  obtain ⟨k, hk⟩ := evBody_cont hb
  exact evS_of (k := k + 1) (by simp only [evF, hc, evG, ha, cond_true, hk, aloneO, hi, ho, and_self, if_true]; rfl)
theorem evS_ok (hm : X.P.follows .mixedOrders = true) (hct : CtOk X) : CallOk X (evS X) := fun f args h v h' he => by
  obtain ⟨k, hk⟩ := evS_inv he
  exact evF_ok hm hct k f args h v h' hk
end
end Go.Proofs.Abs
/- From a law's contract to what the machine does with a reader's arguments. -/
namespace Go.Proofs.Abs
open Go
set_option linter.unusedVariables false
set_option linter.unusedSimpArgs false

section
variable {X : Cx} {w : World}
/-- at the start every block is everybody's -/
def gAll : Gh := { n := 0, φ := fun _ => 0, ψ := fun _ => 0, own := fun _ => .shared, fr := fun _ => 0, hd := fun _ => (0, 0, 0, 0) }
theorem law_runs (hm : X.P.follows .mixedOrders = true) (hct : CtOk X) (hG : Glob X w gAll) {f : FuncId} {args : List TV} {v : TV} {h' : Heap} (he : evS X f args [] = some (v, h')) {us : Array Value} (hsz : us.size = args.length)
    (hrt : ∀ (i : Nat) tv u, args[i]? = some tv → us[i]? = some u → RT w gAll (.tmp i) tv u) (hno : ∀ m a, TV.one m a ∈ args → m.owned = false) :
    Calls X.P f us w fun e w' => ∃ u g', e = .returned u ∧ RT w' g' (.lim 0) v u ∧ Go.RowKit.Below w.heap.size w w' := by
  have hfind : ∀ t tv, find t (number 0 args) = some tv → args[t]? = some tv ∧ t < us.size := fun t tv ht => by
    obtain ⟨_, h1⟩ := find_number args 0 t tv ht
    rw [Nat.sub_zero] at h1
    exact ⟨h1, by rw [hsz]; exact (List.getElem?_eq_some_iff.1 h1).1⟩
  have R : Rel ⟨number 0 args, [], []⟩ [] ⟨us, []⟩ w gAll := by
    refine ⟨rfl, fun i y hi => by simp at hi, fun t tv ht => ?_, fun t cs ht => (by cases ht), fun id cs hi => by simp at hi, fun r d z xs hr b o sp len cap hv => ?_⟩
    · obtain ⟨h1, h2⟩ := hfind t tv ht
      have := hrt t tv us[t] h1 (by simp [h2])
      simpa [Array.getD_eq_getD_getElem?, h2] using this
    · cases r with
      | obj id off =>
        change cellOf off (([] : Heap)[id]?) = _ at hr
        simp [cellOf] at hr
      | loc t off => cases hr
      | tmp t =>
        change oneOf (find t (number 0 args)) = _ at hr
        cases hf : find t (number 0 args) with
        | none => rw [hf] at hr; cases hr
        | some tv =>
          rw [hf] at hr
          obtain ⟨h1, _⟩ := hfind t tv hf
          cases tv with
          | one m c =>
            cases hr
            have := hno _ _ (List.mem_of_getElem? h1)
            cases this
          | agg cs => cases hr
          | tup vs => cases hr
  refine Calls.mono ((evS_ok hm hct f args [] v h' he).2 w gAll ⟨us, []⟩ us hsz (fun i u hu => by simp [Array.getD_eq_getD_getElem?, hu]) R hG) fun e w' hx => ?_
  obtain ⟨u, g', a', hf, rfl, r1, r2, _⟩ := hx
  exact ⟨u, g', rfl, r1.fl 0 (v, u) rfl, r2.os, r2.tape, r2.out, r2.size, fun b hb => (r2.keep b hb (.inl rfl)).1⟩
theorem ctOk_none (h : ∀ f args, X.ct f args = none) : CtOk X := fun f args h0 v h' he => by
  have he : ctO h0 none (X.ct f args) = some (v, h') := he
  rw [h] at he; cases he
theorem glob_none (h : X.gs = []) : Glob X w gAll := fun b hb => by rw [h] at hb; cases hb
/-- a law that answers true -/
theorem law_true (hm : X.P.follows .mixedOrders = true) (hct : CtOk X) (hG : Glob X w gAll) {f : FuncId} {args : List TV} {h' : Heap} (he : evS X f args [] = some (sc (.bool true), h')) {us : Array Value} (hsz : us.size = args.length)
    (hrt : ∀ (i : Nat) tv u, args[i]? = some tv → us[i]? = some u → RT w gAll (.tmp i) tv u) (hno : ∀ m a, TV.one m a ∈ args → m.owned = false) :
    Calls X.P f us w fun e w' => e = .returned (.bool true) ∧ Go.RowKit.Below w.heap.size w w' := by
  refine Calls.mono (law_runs hm hct hG he hsz hrt hno) fun e w' hx => ?_
  obtain ⟨u, g', rfl, r1, r2⟩ := hx
  have : u = .bool true := (show RC w' g' .top (.lim 0) [0] (.bool true) u from r1).bool
  rw [this]; exact ⟨rfl, r2⟩
end
end Go.Proofs.Abs
/- What each step of the abstract machine comes to, as rules for 'simp only'. -/
namespace Go.Proofs.Abs
open Go
set_option linter.unusedVariables false

section
variable {α : Type} {P : Program} {X : Cx} {pu : Pu} {call : CallF} {it : It} {fn : Nat} {s : St} {d : Option Tmp}
/-! binary operations on numbers -/
theorem bin_int (op : BinOp) (ty x y m m' k a b) : evBin P op ty x y (some (.one m (.int k a))) (some (.one m' (.int k b))) = ((pureP P (binOp op ty (.int k a) (.int k b))).bind ofV).map sc := by
  cases op <;> rfl
theorem bin_quo (ty x y m m' k a b) : evBin P .quo ty x y (some (.one m (.int k a))) (some (.one m' (.int k b))) = if b = 0 then none else some (.one .top (.int k (k.wrap (a.tdiv b)))) := by
  by_cases h : b = 0 <;> simp [bin_int, binOp, Op.intDiv, pure, pureP, ofV, sc, h, runtimePanic, goPanic, bind, Sem.bind, Go.program]
theorem bin_rem (ty x y m m' k a b) : evBin P .rem ty x y (some (.one m (.int k a))) (some (.one m' (.int k b))) = if b = 0 then none else some (.one .top (.int k (a.tmod b))) := by
  by_cases h : b = 0 <;> simp [bin_int, binOp, Op.intDiv, pure, pureP, ofV, sc, h, runtimePanic, goPanic, bind, Sem.bind, Go.program]
def bitsOf (op : BinOp) (k : IntKind) (a b : Int) : Int :=
  match op with
  | .and => k.wrap (BitVec.ofInt k.bits a &&& BitVec.ofInt k.bits b).toNat
  | .or => k.wrap (BitVec.ofInt k.bits a ||| BitVec.ofInt k.bits b).toNat
  | .xor => k.wrap (BitVec.ofInt k.bits a ^^^ BitVec.ofInt k.bits b).toNat
  | _ => k.wrap (BitVec.ofInt k.bits a &&& ~~~BitVec.ofInt k.bits b).toNat
theorem bin_shl (ty x y m m' k k' a b) : evBin P .shl ty x y (some (.one m (.int k a))) (some (.one m' (.int k' b))) = if b < 0 then none else some (.one .top (.int k (k.wrap (a * 2 ^ min b.toNat k.bits)))) := by
  by_cases h : b < 0 <;> simp [evBin, evBinC, TV.conc, AV.conc, eqGuard, binOp, Op.shift, pure, pureP, ofV, sc, h, runtimePanic, goPanic, bind, Sem.bind, Go.program]
theorem bin_shr (ty x y m m' k k' a b) : evBin P .shr ty x y (some (.one m (.int k a))) (some (.one m' (.int k' b))) = if b < 0 then none else some (.one .top (.int k (a.fdiv (2 ^ min b.toNat k.bits)))) := by
  by_cases h : b < 0 <;> simp [evBin, evBinC, TV.conc, AV.conc, eqGuard, binOp, Op.shift, pure, pureP, ofV, sc, h, runtimePanic, goPanic, bind, Sem.bind, Go.program]
/-- a function's contract begins here -/
theorem evS_fun {f : FuncId} {args : List TV} {h : Heap} {r} {fu : Func} {c : Code} (hf : X.P.funcs[f]? = some fu) (hc : fu.body = some c) (hok : okBody X f fu c = true) (hct : isBody X f args = true)
    (hr : frzR (X.frz f) (bodyF X.P (X.pure f) h fu.results.toList (evC X ⟨X.pure f, []⟩ (evS X) iterS f c { t := number 0 args, l := [], h := h })) = some r) : evS X f args h = some r := by
  refine evS_body ?_ hct
  unfold evBody
  rw [hf]
  simp only [hc, hok, if_true]
  exact hr
end
end Go.Proofs.Abs
