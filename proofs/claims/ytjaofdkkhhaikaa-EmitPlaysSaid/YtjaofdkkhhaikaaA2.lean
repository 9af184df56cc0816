/- The law EmitPlays: whatever the input, it answers true. No conditions. (Part A2 of its proof.) -/
import Derived.Test.YtjaofdkkhhaikaaA1
import Derived.Below
set_option linter.unusedVariables false
set_option linter.unusedSimpArgs false
set_option linter.unusedSectionVars false
/- Without fuel: what a function answers, if it does at all. -/
namespace Go.Proofs.Abs
open Go
set_option linter.unusedVariables false
set_option linter.unusedSimpArgs false

section
variable {X : Cx} {pu : Pu} {st : Bool} {s s' : St}

def CLe (c c' : CallF) : Prop := ∀ f args h r, c f args h = some r → c' f args h = some r
def FLe (f f' : St → Option (Ex × St)) : Prop := ∀ s r, f s = some r → f' s = some r
def ILe (i i' : It) : Prop := ∀ f f', FLe f f' → ∀ s r, i f s = some r → i' f' s = some r

theorem evOp_mono {c c' : CallF} (hc : CLe c c') {hint : Hint} {o : Oper} (h : evOp X pu c hint o s = some s') : evOp X pu c' hint o s = some s' := by
  obtain ⟨dst, op, type, pos, after, guard⟩ := o
  unfold evOp at h ⊢
  split at h <;> try exact h
  rename_i f args ats
  simp only at h ⊢
  unfold callF0 at h ⊢
  split at h
  · unfold callF at h ⊢
    split at h
    · split at h
      · cases h
      · rename_i hn
        rw [if_neg hn]
        unfold retF at h
        split at h
        · rename_i he
          rw [hc _ _ _ _ he]; exact h
        · cases h
    · cases h
  · cases h
theorem fzO_map {b : Bool} {d : Option Tmp} {q q' : Option St} {r : St} (hq : ∀ s, q = some s → q' = some s) (h : fzO b d q = some r) : fzO b d q' = some r := by
  obtain ⟨s0, h1, _⟩ := fzO_inv h
  rw [hq s0 h1, ← h1]; exact h
theorem evOpZ_mono {c c' : CallF} (hc : CLe c c') {hint : Hint} {o : Oper} (h : evOpZ X pu c hint o s = some s') : evOpZ X pu c' hint o s = some s' := fzO_map (fun _ h => evOp_mono hc h) h
theorem stepA_mono {c c' : CallF} (hc : CLe c c') {hint : Hint} {o : Oper} {q} (h : stepA X pu c hint o s q = some s') : stepA X pu c' hint o s q = some s' := by
  unfold stepA at h ⊢
  split at h
  · exact evOpZ_mono hc h
  · exact h
  · cases h
theorem evOps_mono {c c' : CallF} (hc : CLe c c') {fn id : Nat} {ops : List Oper} : ∀ (l : List Oper) (i : Nat) (s : St), evOps X pu c fn id ops i l (some s) = some s' → evOps X pu c' fn id ops i l (some s) = some s'
  | [], i, s, h => h
  | o :: l, i, s, h => by
    simp only [evOps] at h ⊢
    cases hs : stepA X pu c (X.hint fn id i) o s (wantA ops s o.guard) with
    | none => rw [hs, evOps_none] at h; cases h
    | some s1 =>
      rw [hs] at h
      rw [stepA_mono hc hs]
      exact evOps_mono hc l (i + 1) s1 h
theorem stepI_mono {c c' : CallF} (hc : CLe c c') {fn id i : Nat} {ops : List Oper} (h : stepI X pu c fn id ops i (some s) = some s') : stepI X pu c' fn id ops i (some s) = some s' := by
  simp only [stepI] at h ⊢
  split at h
  · exact stepA_mono hc h
  · cases h
theorem takeI_mono {c c' : CallF} (hc : CLe c c') {fn id i : Nat} {ops : List Oper} (h : takeI X pu st c fn id ops i (some s) = some s') : takeI X pu st c' fn id ops i (some s) = some s' := by
  simp only [takeI] at h ⊢
  split at h
  · unfold takeA at h ⊢
    split at h
    · split at h
      · rename_i hq; rw [if_pos hq]; exact evOpZ_mono hc h
      · cases h
    · exact h
    · cases h
  · cases h
theorem evSch_mono {c c' : CallF} (hc : CLe c c') {fn id : Nat} {ops : List Oper} : ∀ (sch : Sch) (s : St), evSch X pu st c fn id ops sch (some s) = some s' → evSch X pu st c' fn id ops sch (some s) = some s'
  | .done, s, h => h
  | .take i n, s, h => by
    simp only [evSch] at h ⊢
    cases hs : takeI X pu st c fn id ops i (some s) with
    | none => rw [hs, Abs.evSch_none] at h; cases h
    | some s1 => rw [hs] at h; rw [takeI_mono hc hs]; exact evSch_mono hc n s1 h
  | .last i n, s, h => by
    simp only [evSch] at h ⊢
    cases hs : stepI X pu c fn id ops i (some s) with
    | none => rw [hs, Abs.evSch_none] at h; cases h
    | some s1 => rw [hs] at h; rw [stepI_mono hc hs]; exact evSch_mono hc n s1 h
  | .alt i n r, s, h => by
    simp only [evSch] at h ⊢
    obtain ⟨h1, h2⟩ := agree_inv h
    cases hs : stepI X pu c fn id ops i (some s) with
    | none => rw [hs, Abs.evSch_none] at h1; cases h1
    | some s1 =>
      rw [hs] at h1
      rw [stepI_mono hc hs, evSch_mono hc n s1 h1, evSch_mono hc r s h2, agree_same]
theorem evC_mono {c c' : CallF} (hc : CLe c c') {it it' : It} (hi : ILe it it') {fn : Nat} : ∀ (code : Code) (s : St) r, evC X pu c it fn code s = some r → evC X pu c' it' fn code s = some r
  | .skip, s, r, h => h
  | .region id ops dr, s, r, h => by
    obtain ⟨e, s'⟩ := r
    simp only [evC] at h ⊢
    obtain ⟨s1, h1, rfl, rfl⟩ := endR_inv h
    cases dr with
    | false =>
      simp only [Bool.false_eq_true, if_false] at h1 ⊢
      rw [evOps_mono hc _ _ _ h1]; rfl
    | true =>
      simp only [if_true] at h1 ⊢
      rw [evSch_mono hc _ _ h1]; rfl
  | .seq a b, s, r, h => by
    simp only [evC] at h ⊢
    cases ha : evC X pu c it fn a s with
    | none => rw [ha] at h; cases h
    | some q =>
      rw [ha] at h
      rw [evC_mono hc hi a s q ha]
      obtain ⟨e, s1⟩ := q
      cases e with
      | nrm => exact evC_mono hc hi b s1 r h
      | exit id => exact h
      | ret => exact h
  | .cond x a b, s, r, h => by
    simp only [evC] at h ⊢
    unfold condF at h ⊢
    split at h
    · rename_i m t ht
      cases t with
      | true => exact evC_mono hc hi a _ r h
      | false => exact evC_mono hc hi b _ r h
    · cases h
  | .block id x, s, r, h => by
    simp only [evC] at h ⊢
    cases ha : evC X pu c it fn x s with
    | none => rw [ha] at h; cases h
    | some q =>
      rw [ha] at h
      rw [evC_mono hc hi x s q ha]; exact h
  | .loop x, s, r, h => hi _ _ (fun s r h => evC_mono hc hi x s r h) s r h
  | .exit id, s, r, h => h
  | .ret, s, r, h => h
  | .label _, s, r, h => by cases h
  | .goto _, s, r, h => by cases h
theorem iter_mono {f f' : St → Option (Ex × St)} (hf : FLe f f') : ∀ (j j' : Nat) (s : St) r, j ≤ j' → iter f j s = some r → iter f' j' s = some r
  | 0, j', s, r, hj, h => by cases h
  | j + 1, 0, s, r, hj, h => by omega
  | j + 1, j' + 1, s, r, hj, h => by
    simp only [iter] at h ⊢
    cases hs : f s with
    | none => rw [hs] at h; cases h
    | some q =>
      rw [hs] at h
      rw [hf s q hs]
      obtain ⟨e, s1⟩ := q
      cases e with
      | nrm => exact iter_mono hf j j' s1 r (by omega) h
      | exit id => exact h
      | ret => exact h
theorem itK_mono {k k' : Nat} (h : k ≤ k') : ILe (itK k) (itK k') := fun f f' hf s r hr => iter_mono hf k k' s r h hr
theorem evBody_mono {c c' : CallF} (hc : CLe c c') {it it' : It} (hi : ILe it it') {f args h r} (hb : evBody X c it f args h = some r) : evBody X c' it' f args h = some r := by
  unfold evBody at hb ⊢
  split at hb
  · split at hb
    · split at hb
      · rename_i hok
        rw [if_pos hok]
        cases hq : evC X ⟨X.pure f, []⟩ c it f _ { t := number 0 args, l := [], h := h } with
        | none => rw [hq] at hb; cases hb
        | some q => rw [hq] at hb; rw [evC_mono hc hi _ _ q hq]; exact hb
      · rename_i hok
        rw [if_neg hok]; exact hb
    · cases hb
  · cases hb
theorem evF_mono : ∀ (k k' : Nat), k ≤ k' → CLe (evF X k) (evF X k')
  | 0, k', hk, f, args, h, r, he => by cases he
  | k + 1, 0, hk, f, args, h, r, he => by omega
  | k + 1, k' + 1, hk, f, args, h, r, he => evBody_mono (evF_mono k k' (by omega)) (itK_mono (by omega)) he

/-! ### the limits -/
open Classical in
noncomputable def evS (X : Cx) : CallF := fun f args h => if hk : ∃ r k, evF X k f args h = some r then some hk.choose else none
open Classical in
noncomputable def iterS : It := fun f s => if hk : ∃ r k, iter f k s = some r then some hk.choose else none
theorem evS_inv {f args h r} (he : evS X f args h = some r) : ∃ k, evF X k f args h = some r := by
  unfold evS at he
  split at he
  · rename_i hk
    cases he
    exact hk.choose_spec
  · cases he
theorem evS_of {f args h r k} (he : evF X k f args h = some r) : evS X f args h = some r := by
  have hk : ∃ r k, evF X k f args h = some r := ⟨r, k, he⟩
  unfold evS
  rw [dif_pos hk]
  obtain ⟨k', hk'⟩ := hk.choose_spec
  have h1 := evF_mono k (max k k') (Nat.le_max_left _ _) _ _ _ _ he
  have h2 := evF_mono k' (max k k') (Nat.le_max_right _ _) _ _ _ _ hk'
  rw [h1] at h2
  exact h2.symm
theorem iterS_inv {f s r} (he : iterS f s = some r) : ∃ k, iter f k s = some r := by
  unfold iterS at he
  split at he
  · rename_i hk
    cases he
    exact hk.choose_spec
  · cases he
theorem iterS_of {f s r k} (he : iter f k s = some r) : iterS f s = some r := by
  have hk : ∃ r k, iter f k s = some r := ⟨r, k, he⟩
  unfold iterS
  rw [dif_pos hk]
  obtain ⟨k', hk'⟩ := hk.choose_spec
  have h1 := iter_mono (fun _ _ h => h) k (max k k') s r (Nat.le_max_left _ _) he
  have h2 := iter_mono (fun _ _ h => h) k' (max k k') s _ (Nat.le_max_right _ _) hk'
  rw [h1] at h2
  exact h2.symm
theorem iterS_nrm {f : St → Option (Ex × St)} {s s1 r} (h : f s = some (.nrm, s1)) (h1 : iterS f s1 = some r) : iterS f s = some r := by
  obtain ⟨k, hk⟩ := iterS_inv h1
  exact iterS_of (k := k + 1) (by simp only [iter, h]; exact hk)
theorem iterS_out {f : St → Option (Ex × St)} {s e s1} (h : f s = some (e, s1)) (he : e ≠ .nrm) : iterS f s = some (e, s1) := by
  refine iterS_of (k := 1) ?_
  simp only [iter, h]
  cases e with
  | nrm => exact absurd rfl he
  | _ => rfl

/-! what the limits answer, some fuel answers -/
theorem evOp_cont {hint : Hint} {o : Oper} (h : evOp X pu (evS X) hint o s = some s') : ∃ k, evOp X pu (evF X k) hint o s = some s' := by
  obtain ⟨dst, op, type, pos, after, guard⟩ := o
  unfold evOp at h ⊢
  split at h <;> try exact ⟨0, h⟩
  rename_i f args ats
  simp only at h ⊢
  unfold callF0 at h ⊢
  split at h
  · unfold callF at h ⊢
    split at h
    · split at h
      · cases h
      · rename_i hn
        simp only [if_neg hn]
        unfold retF at h
        split at h
        · rename_i he
          obtain ⟨k, hk⟩ := evS_inv he
          exact ⟨k, by rw [hk]; exact h⟩
        · cases h
    · cases h
  · cases h
theorem evOpZ_cont {hint : Hint} {o : Oper} (h : evOpZ X pu (evS X) hint o s = some s') : ∃ k, evOpZ X pu (evF X k) hint o s = some s' := by
  obtain ⟨s0, h1, h2⟩ := fzO_inv h
  obtain ⟨k, hk⟩ := evOp_cont h1
  exact ⟨k, fzO_map (fun s hs => by rw [h1] at hs; rw [hk, hs]) h⟩
theorem stepA_cont {hint : Hint} {o : Oper} {q} (h : stepA X pu (evS X) hint o s q = some s') : ∃ k, stepA X pu (evF X k) hint o s q = some s' := by
  unfold stepA at h ⊢
  split at h
  · exact evOpZ_cont h
  · exact ⟨0, h⟩
  · cases h
theorem evOps_cont {fn id : Nat} {ops : List Oper} : ∀ (l : List Oper) (i : Nat) (s : St), evOps X pu (evS X) fn id ops i l (some s) = some s' → ∃ k, evOps X pu (evF X k) fn id ops i l (some s) = some s'
  | [], i, s, h => ⟨0, h⟩
  | o :: l, i, s, h => by
    simp only [evOps] at h ⊢
    cases hs : stepA X pu (evS X) (X.hint fn id i) o s (wantA ops s o.guard) with
    | none => rw [hs, evOps_none] at h; cases h
    | some s1 =>
      rw [hs] at h
      obtain ⟨k1, h1⟩ := stepA_cont hs
      obtain ⟨k2, h2⟩ := evOps_cont l (i + 1) s1 h
      refine ⟨max k1 k2, ?_⟩
      rw [stepA_mono (evF_mono _ _ (Nat.le_max_left _ _)) h1]
      exact evOps_mono (evF_mono _ _ (Nat.le_max_right _ _)) _ _ _ h2
theorem stepI_cont {fn id i : Nat} {ops : List Oper} (h : stepI X pu (evS X) fn id ops i (some s) = some s') : ∃ k, stepI X pu (evF X k) fn id ops i (some s) = some s' := by
  simp only [stepI] at h ⊢
  split at h
  · exact stepA_cont h
  · cases h
theorem takeI_cont {fn id i : Nat} {ops : List Oper} (h : takeI X pu st (evS X) fn id ops i (some s) = some s') : ∃ k, takeI X pu st (evF X k) fn id ops i (some s) = some s' := by
  simp only [takeI] at h ⊢
  split at h
  · unfold takeA at h ⊢
    split at h
    · split at h
      · rename_i hq; simp only [if_pos hq]; exact evOpZ_cont h
      · cases h
    · exact ⟨0, h⟩
    · cases h
  · cases h
theorem evSch_cont {fn id : Nat} {ops : List Oper} : ∀ (sch : Sch) (s : St), evSch X pu st (evS X) fn id ops sch (some s) = some s' → ∃ k, evSch X pu st (evF X k) fn id ops sch (some s) = some s'
  | .done, s, h => ⟨0, h⟩
  | .take i n, s, h => by
    simp only [evSch] at h ⊢
    cases hs : takeI X pu st (evS X) fn id ops i (some s) with
    | none => rw [hs, Abs.evSch_none] at h; cases h
    | some s1 =>
      rw [hs] at h
      obtain ⟨k1, h1⟩ := takeI_cont hs
      obtain ⟨k2, h2⟩ := evSch_cont n s1 h
      refine ⟨max k1 k2, ?_⟩
      rw [takeI_mono (evF_mono _ _ (Nat.le_max_left _ _)) h1]
      exact evSch_mono (evF_mono _ _ (Nat.le_max_right _ _)) _ _ h2
  | .last i n, s, h => by
    simp only [evSch] at h ⊢
    cases hs : stepI X pu (evS X) fn id ops i (some s) with
    | none => rw [hs, Abs.evSch_none] at h; cases h
    | some s1 =>
      rw [hs] at h
      obtain ⟨k1, h1⟩ := stepI_cont hs
      obtain ⟨k2, h2⟩ := evSch_cont n s1 h
      refine ⟨max k1 k2, ?_⟩
      rw [stepI_mono (evF_mono _ _ (Nat.le_max_left _ _)) h1]
      exact evSch_mono (evF_mono _ _ (Nat.le_max_right _ _)) _ _ h2
  | .alt i n r, s, h => by
    simp only [evSch] at h ⊢
    obtain ⟨h1, h2⟩ := agree_inv h
    cases hs : stepI X pu (evS X) fn id ops i (some s) with
    | none => rw [hs, Abs.evSch_none] at h1; cases h1
    | some s1 =>
      rw [hs] at h1
      obtain ⟨k1, q1⟩ := stepI_cont hs
      obtain ⟨k2, q2⟩ := evSch_cont n s1 h1
      obtain ⟨k3, q3⟩ := evSch_cont r s h2
      refine ⟨max k1 (max k2 k3), ?_⟩
      rw [stepI_mono (evF_mono _ _ (by omega)) q1, evSch_mono (evF_mono k2 (max k1 (max k2 k3)) (by omega)) _ _ q2, evSch_mono (evF_mono k3 (max k1 (max k2 k3)) (by omega)) _ _ q3, agree_same]
theorem iter_cont {g : Nat → St → Option (Ex × St)} {f : St → Option (Ex × St)} (hm : ∀ k k', k ≤ k' → FLe (g k) (g k')) (hc : ∀ s r, f s = some r → ∃ k, g k s = some r) : ∀ (j : Nat) (s : St) r, iter f j s = some r → ∃ k, iter (g k) j s = some r
  | 0, s, r, h => by cases h
  | j + 1, s, r, h => by
    simp only [iter] at h ⊢
    cases hs : f s with
    | none => rw [hs] at h; cases h
    | some q =>
      rw [hs] at h
      obtain ⟨k1, h1⟩ := hc s q hs
      obtain ⟨e, s1⟩ := q
      cases e with
      | nrm =>
        obtain ⟨k2, h2⟩ := iter_cont hm hc j s1 r h
        refine ⟨max k1 k2, ?_⟩
        rw [hm k1 (max k1 k2) (by omega) s _ h1]
        exact iter_mono (hm k2 (max k1 k2) (by omega)) j j s1 r (Nat.le_refl _) h2
      | exit id => exact ⟨k1, by rw [h1]; exact h⟩
      | ret => exact ⟨k1, by rw [h1]; exact h⟩
theorem evC_up {fn : Nat} {code : Code} {s r k k'} (h : k ≤ k') (he : evC X pu (evF X k) (itK k) fn code s = some r) : evC X pu (evF X k') (itK k') fn code s = some r := evC_mono (evF_mono _ _ h) (itK_mono h) code s r he
theorem evC_cont {fn : Nat} : ∀ (code : Code) (s : St) r, evC X pu (evS X) iterS fn code s = some r → ∃ k, evC X pu (evF X k) (itK k) fn code s = some r
  | .skip, s, r, h => ⟨0, h⟩
  | .region id ops dr, s, r, h => by
    obtain ⟨e, s'⟩ := r
    simp only [evC] at h ⊢
    obtain ⟨s1, h1, rfl, rfl⟩ := endR_inv h
    cases dr with
    | false =>
      simp only [Bool.false_eq_true, if_false] at h1 ⊢
      obtain ⟨k, hk⟩ := evOps_cont _ _ _ h1
      exact ⟨k, by rw [hk]; rfl⟩
    | true =>
      simp only [if_true] at h1 ⊢
      obtain ⟨k, hk⟩ := evSch_cont _ _ h1
      exact ⟨k, by rw [hk]; rfl⟩
  | .seq a b, s, r, h => by
    simp only [evC] at h
    cases ha : evC X pu (evS X) iterS fn a s with
    | none => rw [ha] at h; cases h
    | some q =>
      rw [ha] at h
      obtain ⟨k1, h1⟩ := evC_cont a s q ha
      obtain ⟨e, s1⟩ := q
      cases e with
      | nrm =>
        obtain ⟨k2, h2⟩ := evC_cont b s1 r h
        refine ⟨max k1 k2, ?_⟩
        simp only [evC]
        rw [evC_up (Nat.le_max_left k1 k2) h1]
        exact evC_up (Nat.le_max_right k1 k2) h2
      | exit id => exact ⟨k1, by simp only [evC]; rw [h1]; exact h⟩
      | ret => exact ⟨k1, by simp only [evC]; rw [h1]; exact h⟩
  | .cond x a b, s, r, h => by
    simp only [evC] at h ⊢
    unfold condF at h ⊢
    split at h
    · rename_i m t ht
      cases t with
      | true => exact evC_cont a _ r h
      | false => exact evC_cont b _ r h
    · cases h
  | .block id x, s, r, h => by
    simp only [evC] at h ⊢
    cases ha : evC X pu (evS X) iterS fn x s with
    | none => rw [ha] at h; cases h
    | some q =>
      rw [ha] at h
      obtain ⟨k, hk⟩ := evC_cont x s q ha
      exact ⟨k, by rw [hk]; exact h⟩
  | .loop x, s, r, h => by
    simp only [evC] at h ⊢
    obtain ⟨j, hj⟩ := iterS_inv h
    obtain ⟨k, hk⟩ := iter_cont (g := fun k => evC X pu (evF X k) (itK k) fn x) (fun k k' hk s r h => evC_up hk h) (fun s r h => evC_cont x s r h) j s r hj
    exact ⟨max j k, iter_mono (fun s r h => evC_up (Nat.le_max_right j k) h) j (max j k) s r (Nat.le_max_left _ _) hk⟩
  | .exit id, s, r, h => ⟨0, h⟩
  | .ret, s, r, h => ⟨0, h⟩
  | .label _, s, r, h => by cases h
  | .goto _, s, r, h => by cases h
/-- **a contract is an equation** -/
theorem evS_body {f args h r} (hb : evBody X (evS X) iterS f args h = some r) : evS X f args h = some r := by
  unfold evBody at hb
  split at hb
  rotate_left
  · cases hb
  rename_i fn hfn
  split at hb
  rotate_left
  · cases hb
  rename_i c hc
  split at hb
  rotate_left
  · rename_i hok
    refine evS_of (k := 1) ?_
    show evBody X (evF X 0) (itK 0) f args h = some r
    unfold evBody
    rw [hfn]
    simp only [hc, if_neg hok]
    exact hb
  rename_i hok
  cases hq : evC X ⟨X.pure f, []⟩ (evS X) iterS f c { t := number 0 args, l := [], h := h } with
  | none => rw [hq] at hb; cases hb
  | some q =>
    rw [hq] at hb
    obtain ⟨k, hk⟩ := evC_cont c _ q hq
    refine evS_of (k := k + 1) ?_
    show evBody X (evF X k) (itK k) f args h = some r
    unfold evBody
    rw [hfn]
    simp only [hc, hok, if_true, hk]
    exact hb
theorem evS_ok (hm : X.P.follows .mixedOrders = true) : CallOk X (evS X) := fun f args h v h' he => by
  obtain ⟨k, hk⟩ := evS_inv he
  exact evF_ok hm k f args h v h' hk
end
end Go.Proofs.Abs
/- From a law's contract to what the machine does with a reader's arguments. -/
namespace Go.Proofs.Abs
open Go
set_option linter.unusedVariables false
set_option linter.unusedSimpArgs false

section
variable {X : Cx} {w : World}
/-- at the start every block is everybody's -/
def gAll : Gh := { n := 0, φ := fun _ => 0, ψ := fun _ => 0, own := fun _ => .shared, fr := fun _ => 0, hd := fun _ => (0, 0, 0, 0) }
theorem law_runs (hm : X.P.follows .mixedOrders = true) {f : FuncId} {args : List TV} {v : TV} {h' : Heap} (he : evS X f args [] = some (v, h')) {us : Array Value} (hsz : us.size = args.length)
    (hrt : ∀ (i : Nat) tv u, args[i]? = some tv → us[i]? = some u → RT w gAll (.tmp i) tv u) (hno : ∀ m a, TV.one m a ∈ args → m.owned = false) :
    Calls X.P f us w fun e w' => ∃ u g', e = .returned u ∧ RT w' g' (.lim 0) v u ∧ Go.RowKit.Below w.heap.size w w' := by
  have hfind : ∀ t tv, find t (number 0 args) = some tv → args[t]? = some tv ∧ t < us.size := fun t tv ht => by
    obtain ⟨_, h1⟩ := find_number args 0 t tv ht
    rw [Nat.sub_zero] at h1
    exact ⟨h1, by rw [hsz]; exact (List.getElem?_eq_some_iff.1 h1).1⟩
  have R : Rel ⟨number 0 args, [], []⟩ [] ⟨us, []⟩ w gAll := by
    refine ⟨rfl, fun i y hi => by simp at hi, fun t tv ht => ?_, fun t cs ht => (by cases ht), fun id cs hi => by simp at hi, fun r d z xs hr b o sp len cap hv => ?_⟩
    · obtain ⟨h1, h2⟩ := hfind t tv ht
      have := hrt t tv us[t] h1 (by simp [h2])
      simpa [Array.getD_eq_getD_getElem?, h2] using this
    · cases r with
      | obj id off =>
        change cellOf off (([] : Heap)[id]?) = _ at hr
        simp [cellOf] at hr
      | loc t off => cases hr
      | tmp t =>
        change oneOf (find t (number 0 args)) = _ at hr
        cases hf : find t (number 0 args) with
        | none => rw [hf] at hr; cases hr
        | some tv =>
          rw [hf] at hr
          obtain ⟨h1, _⟩ := hfind t tv hf
          cases tv with
          | one m c =>
            cases hr
            have := hno _ _ (List.mem_of_getElem? h1)
            cases this
          | agg cs => cases hr
          | tup vs => cases hr
  refine Calls.mono ((evS_ok hm f args [] v h' he).2 w gAll ⟨us, []⟩ us hsz (fun i u hu => by simp [Array.getD_eq_getD_getElem?, hu]) R) fun e w' hx => ?_
  obtain ⟨u, g', a', hf, rfl, r1, r2, _⟩ := hx
  exact ⟨u, g', rfl, r1.fl 0 (v, u) rfl, r2.os, r2.tape, r2.out, r2.size, fun b hb => (r2.keep b hb (.inl rfl)).1⟩
/-- a law that answers true -/
theorem law_true (hm : X.P.follows .mixedOrders = true) {f : FuncId} {args : List TV} {h' : Heap} (he : evS X f args [] = some (sc (.bool true), h')) {us : Array Value} (hsz : us.size = args.length)
    (hrt : ∀ (i : Nat) tv u, args[i]? = some tv → us[i]? = some u → RT w gAll (.tmp i) tv u) (hno : ∀ m a, TV.one m a ∈ args → m.owned = false) :
    Calls X.P f us w fun e w' => e = .returned (.bool true) ∧ Go.RowKit.Below w.heap.size w w' := by
  refine Calls.mono (law_runs hm he hsz hrt hno) fun e w' hx => ?_
  obtain ⟨u, g', rfl, r1, r2⟩ := hx
  have : u = .bool true := (show RC w' g' .top (.lim 0) [0] (.bool true) u from r1).bool
  rw [this]; exact ⟨rfl, r2⟩
end
end Go.Proofs.Abs
/- What each step of the abstract machine comes to, as rules for 'simp only'. -/
namespace Go.Proofs.Abs
open Go
set_option linter.unusedVariables false

section
variable {α : Type} {P : Program} {X : Cx} {pu : Pu} {call : CallF} {it : It} {fn : Nat} {s : St} {d : Option Tmp}
def bitsOf (op : BinOp) (k : IntKind) (a b : Int) : Int :=
  match op with
  | .and => k.wrap (BitVec.ofInt k.bits a &&& BitVec.ofInt k.bits b).toNat
  | .or => k.wrap (BitVec.ofInt k.bits a ||| BitVec.ofInt k.bits b).toNat
  | .xor => k.wrap (BitVec.ofInt k.bits a ^^^ BitVec.ofInt k.bits b).toNat
  | _ => k.wrap (BitVec.ofInt k.bits a &&& ~~~BitVec.ofInt k.bits b).toNat
theorem bin_shl (ty x y m m' k k' a b) : evBin P .shl ty x y (some (.one m (.int k a))) (some (.one m' (.int k' b))) = if b < 0 then none else some (.one .top (.int k (k.wrap (a * 2 ^ min b.toNat k.bits)))) := by
  by_cases h : b < 0 <;> simp [evBin, evBinC, TV.conc, AV.conc, eqGuard, binOp, Op.shift, pure, pureP, ofV, sc, h, runtimePanic, goPanic, bind, Sem.bind, Go.program]
theorem bin_shr (ty x y m m' k k' a b) : evBin P .shr ty x y (some (.one m (.int k a))) (some (.one m' (.int k' b))) = if b < 0 then none else some (.one .top (.int k (a.fdiv (2 ^ min b.toNat k.bits)))) := by
  by_cases h : b < 0 <;> simp [evBin, evBinC, TV.conc, AV.conc, eqGuard, binOp, Op.shift, pure, pureP, ofV, sc, h, runtimePanic, goPanic, bind, Sem.bind, Go.program]
/-- a function's contract begins here -/
theorem evS_fun {f : FuncId} {args : List TV} {h : Heap} {r} {fu : Func} {c : Code} (hf : X.P.funcs[f]? = some fu) (hc : fu.body = some c) (hok : okBody X f fu c = true)
    (hr : frzR (X.frz f) (bodyF X.P (X.pure f) h fu.results.toList (evC X ⟨X.pure f, []⟩ (evS X) iterS f c { t := number 0 args, l := [], h := h })) = some r) : evS X f args h = some r := by
  refine evS_body ?_
  unfold evBody
  rw [hf]
  simp only [hc, hok, if_true]
  exact hr
end
end Go.Proofs.Abs
