/- The law ItemCalls: whatever the input, it answers true. No conditions. (Part ItemCalls of its proof.) -/
import Derived.Test.YtjheniapmdcelaaItemCallsP
import Derived.Test.YtjheniapmdcelaaRows
import Derived.WalkKit
import Derived.ProofKit
import Derived.OpenShut
import Derived.ShutString
import Derived.ChangeOld
import Derived.Below
import Derived.SizedLaws
import Derived.Carry
set_option linter.unusedVariables false
set_option linter.unusedSimpArgs false
set_option linter.unusedSectionVars false
/- Printed by gen (walk.py): the row. -/
namespace Go.Proofs.Ytjheniapmdcelaa.itemCalls
open Go Go.Proofs Go.ChangeShapes Go.WideShapes Go.ChangeAt Go.RowKit
set_option linter.unusedVariables false
theorem own : ownKnob Try.prog.godebug = none := by kernel_rfl
theorem laidOut : laidOutB Try.prog = true := by kernel_rfl
set_option maxRecDepth 100000 in
theorem lifted (os : Os) (started : os.Started) (H : Type) (enc : TypeId × Value → H) :
    ReturnsInHanded {} Try.checked os 10 .any (Rows.itemCallsSpec.pre6 enc Try.prog Try.f10 Rows.itemCallsRow.domain false) (Rows.itemCallsSpec.post enc Try.prog Try.f10 false true false false) := by
  refine returnsInHanded_of_change_sized (C := Try.checked) own started (by kernel_rfl) Try.func10
    (ChangeSpec.witness6 (enc := enc) (C := Try.checked) false ⟨#[], #[.int .i32 0, .int .i32 0, .int .i32 0], []⟩ 8 (by kernel_rfl) (by kernel_rfl) (by kernel_rfl) (by kernel_rfl)) ?_
  intro W base args ds gs before hval0 hW hcnd hsz0 _
  have hval : ∀ (j : Nat) t v, Try.f10.params[j]? = some t → args[j]? = some v → Value.okWide Try.prog W .any base t v := hval0
  have hW' := hW
  obtain ⟨p, q, hA0, hV, rfl, hfz, hnd⟩ := hW
  have hA : DataW.TrodAll enc Try.prog W 0 (fun _ => true) true Try.f10.params.toList args.toList ds p := hA0
  rw [Try.params10] at hA hval
  obtain ⟨v0, vs0, d0, ds0, p0, q0, hargs, rfl, rfl, h0, r0⟩ := trodAll_cons hA
  obtain ⟨v1, vs1, d1, ds1, p1, q1, rfl, rfl, rfl, h1, r1⟩ := trodAll_cons r0
  obtain ⟨v2, vs2, d2, ds2, p2, q2, rfl, rfl, rfl, h2, r2⟩ := trodAll_cons r1
  obtain ⟨rfl, rfl, rfl⟩ := trodAll_nil r2
  obtain rfl : args = #[v0, v1, v2] := by cases args; simp_all
  obtain ⟨rfl, rfl⟩ := trodVars_none hV
  have k0 := h0
  have lt0 : ∀ x ∈ p0, x.block < W.heap.size := by obtain ⟨m, hm⟩ := k0; exact DataW.trod_lt m _ _ _ hm
  obtain ⟨fu0, hf0⟩ := h0
  obtain ⟨a0, w0, rd0⟩ := (Abs.opens_int Try.underlying21) H enc W fu0 _ _ hf0
  obtain ⟨b0, rfl⟩ := okWide_int Try.underlying21 (hval 0 21 v0 rfl rfl)
  have k1 := h1
  have lt1 : ∀ x ∈ p1, x.block < W.heap.size := by obtain ⟨m, hm⟩ := k1; exact DataW.trod_lt m _ _ _ hm
  obtain ⟨fu1, hf1⟩ := h1
  obtain ⟨a1, w1, rd1⟩ := (Abs.opens_int Try.underlying21) H enc W fu1 _ _ hf1
  obtain ⟨b1, rfl⟩ := okWide_int Try.underlying21 (hval 1 21 v1 rfl rfl)
  have k2 := h2
  have lt2 : ∀ x ∈ p2, x.block < W.heap.size := by obtain ⟨m, hm⟩ := k2; exact DataW.trod_lt m _ _ _ hm
  obtain ⟨fu2, hf2⟩ := h2
  obtain ⟨a2, w2, rd2⟩ := (Abs.opens_int Try.underlying21) H enc W fu2 _ _ hf2
  obtain ⟨b2, rfl⟩ := okWide_int Try.underlying21 (hval 2 21 v2 rfl rfl)
  obtain ⟨Hr, hlaw⟩ := Abs.ItemCalls_holds a0 a1 a2 w0 w1 w2
  clear hA0 hval0 hsz0
  have rt0 := Abs.arg_scalar (w := W) (i := 0) rd0 rfl rfl
  have rt1 := Abs.arg_scalar (w := W) (i := 1) rd1 rfl rfl
  have rt2 := Abs.arg_scalar (w := W) (i := 2) rd2 rfl rfl
  refine (Abs.law_true (X := Abs.X) (w := W) (us := #[_, _, _]) (by kernel_rfl) (Abs.ok_law19_ItemCalls [] hlaw) rfl (fun j tv u h1 h2 => ?_) (fun m c hm => ?_)).mono fun e W' ⟨he, bel⟩ => ?_
  · match j, h1, h2 with
    | 0, h1, h2 => cases h1; cases h2; exact rt0
    | 1, h1, h2 => cases h1; cases h2; exact rt1
    | 2, h1, h2 => cases h1; cases h2; exact rt2
    | k + 3, h1, h2 => exact absurd h1 (by simp)
  · simp only [List.mem_cons, List.not_mem_nil, or_false, Abs.TV.one.injEq, reduceCtorEq, false_or, or_self, and_false] at hm
    all_goals first | (rcases hm with ⟨rfl, _⟩; rfl; done) | (rcases hm with ⟨rfl, _⟩ | ⟨rfl, _⟩ <;> rfl; done) | (rcases hm with ⟨rfl, _⟩ | ⟨rfl, _⟩ | ⟨rfl, _⟩ <;> rfl; done) | exact hm.elim
  subst he
  exact ⟨_, rfl, _, _, _, [], _, [], hW', trodAll_mk1 (shut_bool Try.underlying4 _), (trodAll_cons_mk (Below.trod laidOut (by kernel_rfl) (of_decide_eq_true (by kernel_rfl)) k0 bel lt0) (trodAll_cons_mk (Below.trod laidOut (by kernel_rfl) (of_decide_eq_true (by kernel_rfl)) k1 bel lt1) (trodAll_cons_mk (Below.trod laidOut (by kernel_rfl) (of_decide_eq_true (by kernel_rfl)) k2 bel lt2) trodAll_mk0))), rfl, bel.frame _, fun h => by cases h⟩
theorem over : Rows.itemCallsRow.holds Try.pinned (OpenSpec.ofChange Rows.itemCallsSpec) :=
  OpenClaim.holds_of_wide 10 Try.f10 rfl rfl rfl rfl rfl rfl rfl ⟨rfl, rfl, rfl, rfl, rfl⟩ rfl rfl rfl rfl rfl (by kernel_rfl) Try.func10 (by kernel_rfl)
    (of_decide_eq_true (by kernel_rfl)) (by unfold Func.isWrapper; first | (rw [if_pos (by decide +kernel)]; kernel_rfl) | (rw [if_neg (by decide +kernel)]; exact ⟨rfl, rfl⟩))
    (fun os started H enc _ => lifted os started H enc)
theorem proved : Rows.ItemCallsSaid := over
end Go.Proofs.Ytjheniapmdcelaa.itemCalls
namespace Go.Proofs.Ytjheniapmdcelaa
theorem itemCalls_holds : Rows.ItemCallsSaid := itemCalls.proved
#print axioms itemCalls_holds
end Go.Proofs.Ytjheniapmdcelaa
