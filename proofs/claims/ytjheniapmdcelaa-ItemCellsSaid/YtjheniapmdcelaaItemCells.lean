/- The law ItemCells: whatever the input, it answers true. No conditions. (Part ItemCells of its proof.) -/
import Derived.Test.YtjheniapmdcelaaItemCellsP
import Derived.Test.YtjheniapmdcelaaRows
import Derived.WalkKit
import Derived.ProofKit
import Derived.OpenShut
import Derived.ShutString
import Derived.ChangeOld
import Derived.Below
import Derived.SizedLaws
import Derived.Carry
set_option linter.unusedVariables false
set_option linter.unusedSimpArgs false
set_option linter.unusedSectionVars false
/- Printed by gen (walk.py): the row. -/
namespace Go.Proofs.Ytjheniapmdcelaa.itemCells
open Go Go.Proofs Go.ChangeShapes Go.WideShapes Go.ChangeAt Go.RowKit
set_option linter.unusedVariables false
theorem own : ownKnob Try.prog.godebug = none := by kernel_rfl
theorem laidOut : laidOutB Try.prog = true := by kernel_rfl
set_option maxRecDepth 100000 in
theorem lifted (os : Os) (started : os.Started) (H : Type) (enc : TypeId × Value → H) :
    ReturnsInHanded {} Try.checked os 9 .any (Rows.itemCellsSpec.pre6 enc Try.prog Try.f9 Rows.itemCellsRow.domain false) (Rows.itemCellsSpec.post enc Try.prog Try.f9 false true false false) := by
  refine returnsInHanded_of_change_sized (C := Try.checked) own started (by kernel_rfl) Try.func9
    (ChangeSpec.witness6 (enc := enc) (C := Try.checked) false ⟨#[], #[.slice none 0 0, .int .u16 0], []⟩ 8 (by kernel_rfl) (by kernel_rfl) (by kernel_rfl) (by kernel_rfl)) ?_
  intro W base args ds gs before hval0 hW hcnd hsz0 _
  have hval : ∀ (j : Nat) t v, Try.f9.params[j]? = some t → args[j]? = some v → Value.okWide Try.prog W .any base t v := hval0
  have hW' := hW
  obtain ⟨p, q, hA0, hV, rfl, hfz, hnd⟩ := hW
  have hA : DataW.TrodAll enc Try.prog W 0 (fun _ => true) true Try.f9.params.toList args.toList ds p := hA0
  rw [Try.params9] at hA hval
  obtain ⟨v0, vs0, d0, ds0, p0, q0, hargs, rfl, rfl, h0, r0⟩ := trodAll_cons hA
  obtain ⟨v1, vs1, d1, ds1, p1, q1, rfl, rfl, rfl, h1, r1⟩ := trodAll_cons r0
  obtain ⟨rfl, rfl, rfl⟩ := trodAll_nil r1
  obtain rfl : args = #[v0, v1] := by cases args; simp_all
  obtain ⟨rfl, rfl⟩ := trodVars_none hV
  have k0 := h0
  have lt0 : ∀ x ∈ p0, x.block < W.heap.size := by obtain ⟨m, hm⟩ := k0; exact DataW.trod_lt m _ _ _ hm
  obtain ⟨fu0, hf0⟩ := h0
  obtain ⟨a0, w0, rd0⟩ := (Abs.opens_slice (z := 1) Try.underlying80 (by kernel_rfl) (by kernel_rfl) (fun _ => rfl) (Abs.opens_int Try.underlying56)) H enc W fu0 _ _ hf0
  obtain ⟨b0, len0, cap0, rfl⟩ := okWide_slice Try.underlying80 (hval 0 80 v0 rfl rfl)
  have k1 := h1
  have lt1 : ∀ x ∈ p1, x.block < W.heap.size := by obtain ⟨m, hm⟩ := k1; exact DataW.trod_lt m _ _ _ hm
  obtain ⟨fu1, hf1⟩ := h1
  obtain ⟨a1, w1, rd1⟩ := (Abs.opens_int Try.underlying56) H enc W fu1 _ _ hf1
  obtain ⟨b1, rfl⟩ := okWide_int Try.underlying56 (hval 1 56 v1 rfl rfl)
  obtain ⟨Hr, hlaw⟩ := Abs.ItemCells_holds a0 a1 w0 w1
  clear hA0 hval0 hsz0
  have rt0 := Abs.arg_one (w := W) (i := 0) rd0 rfl
  have rt1 := Abs.arg_scalar (w := W) (i := 1) rd1 rfl rfl
  refine (Abs.law_true (X := Abs.X) (w := W) (us := #[.slice b0 len0 cap0, _]) (by kernel_rfl) (Abs.ok_law19_ItemCells [] hlaw) rfl (fun j tv u h1 h2 => ?_) (fun m c hm => ?_)).mono fun e W' ⟨he, bel⟩ => ?_
  · match j, h1, h2 with
    | 0, h1, h2 => cases h1; cases h2; exact rt0
    | 1, h1, h2 => cases h1; cases h2; exact rt1
    | k + 2, h1, h2 => exact absurd h1 (by simp)
  · simp only [List.mem_cons, List.not_mem_nil, or_false, Abs.TV.one.injEq, reduceCtorEq, false_or, or_self, and_false] at hm
    all_goals first | (rcases hm with ⟨rfl, _⟩; rfl; done) | (rcases hm with ⟨rfl, _⟩ | ⟨rfl, _⟩ <;> rfl; done) | (rcases hm with ⟨rfl, _⟩ | ⟨rfl, _⟩ | ⟨rfl, _⟩ <;> rfl; done) | exact hm.elim
  subst he
  exact ⟨_, rfl, _, _, _, [], _, [], hW', trodAll_mk1 (shut_bool Try.underlying4 _), (trodAll_cons_mk (Below.trod laidOut (by kernel_rfl) (of_decide_eq_true (by kernel_rfl)) k0 bel lt0) (trodAll_cons_mk (Below.trod laidOut (by kernel_rfl) (of_decide_eq_true (by kernel_rfl)) k1 bel lt1) trodAll_mk0)), rfl, bel.frame _, fun h => by cases h⟩
theorem over : Rows.itemCellsRow.holds Try.pinned (OpenSpec.ofChange Rows.itemCellsSpec) :=
  OpenClaim.holds_of_wide 9 Try.f9 rfl rfl rfl rfl rfl rfl rfl ⟨rfl, rfl, rfl, rfl, rfl⟩ rfl rfl rfl rfl rfl (by kernel_rfl) Try.func9 (by kernel_rfl)
    (of_decide_eq_true (by kernel_rfl)) (by unfold Func.isWrapper; first | (rw [if_pos (by decide +kernel)]; kernel_rfl) | (rw [if_neg (by decide +kernel)]; exact ⟨rfl, rfl⟩))
    (fun os started H enc _ => lifted os started H enc)
theorem proved : Rows.ItemCellsSaid := over
end Go.Proofs.Ytjheniapmdcelaa.itemCells
namespace Go.Proofs.Ytjheniapmdcelaa
theorem itemCells_holds : Rows.ItemCellsSaid := itemCells.proved
#print axioms itemCells_holds
end Go.Proofs.Ytjheniapmdcelaa
