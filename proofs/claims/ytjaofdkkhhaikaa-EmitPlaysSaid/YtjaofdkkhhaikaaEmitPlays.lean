/- The law EmitPlays: whatever the input, it answers true. No conditions. (Part EmitPlays of its proof.) -/
import Derived.Test.YtjaofdkkhhaikaaEmitPlaysP
import Derived.Test.YtjaofdkkhhaikaaRows
import Derived.WalkKit
import Derived.ProofKit
import Derived.OpenShut
import Derived.ShutString
import Derived.ChangeOld
import Derived.Below
import Derived.SizedLaws
import Derived.Carry
set_option linter.unusedVariables false
set_option linter.unusedSimpArgs false
set_option linter.unusedSectionVars false
/- Printed by gen (walk.py): the row. -/
namespace Go.Proofs.Ytjaofdkkhhaikaa.emitPlays
open Go Go.Proofs Go.ChangeShapes Go.WideShapes Go.ChangeAt Go.RowKit
set_option linter.unusedVariables false
theorem own : ownKnob Try.prog.godebug = none := by kernel_rfl
theorem laidOut : laidOutB Try.prog = true := by kernel_rfl
set_option maxRecDepth 100000 in
theorem lifted (os : Os) (started : os.Started) (H : Type) (enc : TypeId × Value → H) :
    ReturnsInHanded {} Try.checked os 3 .any (Rows.emitPlaysSpec.pre6 enc Try.prog Try.f3 Rows.emitPlaysRow.domain false) (Rows.emitPlaysSpec.post enc Try.prog Try.f3 false true false false) := by
  refine returnsInHanded_of_change_sized (C := Try.checked) own started (by kernel_rfl) Try.func3
    (ChangeSpec.witness6 (enc := enc) (C := Try.checked) false ⟨#[], #[.slice none 0 0], []⟩ 8 (by kernel_rfl) (by kernel_rfl) (by kernel_rfl) (by kernel_rfl)) ?_
  intro W base args ds gs before hval0 hW hcnd hsz0 _
  have hval : ∀ (j : Nat) t v, Try.f3.params[j]? = some t → args[j]? = some v → Value.okWide Try.prog W .any base t v := hval0
  have hW' := hW
  obtain ⟨p, q, hA0, hV, rfl, hfz, hnd⟩ := hW
  have hA : DataW.TrodAll enc Try.prog W 0 (fun _ => true) true Try.f3.params.toList args.toList ds p := hA0
  rw [Try.params3] at hA hval
  obtain ⟨v0, vs0, d0, ds0, p0, q0, hargs, rfl, rfl, h0, r0⟩ := trodAll_cons hA
  obtain ⟨rfl, rfl, rfl⟩ := trodAll_nil r0
  obtain rfl : args = #[v0] := by cases args; simp_all
  obtain ⟨rfl, rfl⟩ := trodVars_none hV
  have k0 := h0
  have lt0 : ∀ x ∈ p0, x.block < W.heap.size := by obtain ⟨m, hm⟩ := k0; exact DataW.trod_lt m _ _ _ hm
  obtain ⟨fu0, hf0⟩ := h0
  obtain ⟨a0, w0, rd0⟩ := (Abs.opens_slice (z := 10) Try.underlying22 (by kernel_rfl) (by kernel_rfl) (fun _ => rfl) Abs.opens_law17_Op) H enc W fu0 _ _ hf0
  obtain ⟨b0, len0, cap0, rfl⟩ := okWide_slice Try.underlying22 (hval 0 22 v0 rfl rfl)
  obtain ⟨Hr, hlaw⟩ := Abs.EmitPlays_holds a0 w0
  clear hA0 hval0 hsz0
  have rt0 := Abs.arg_one (w := W) (i := 0) rd0 rfl
  refine (Abs.law_true (X := Abs.X) (w := W) (us := #[.slice b0 len0 cap0]) (by kernel_rfl) (Abs.ok_law17_EmitPlays [] hlaw) rfl (fun j tv u h1 h2 => ?_) (fun m c hm => ?_)).mono fun e W' ⟨he, bel⟩ => ?_
  · match j, h1, h2 with
    | 0, h1, h2 => cases h1; cases h2; exact rt0
    | k + 1, h1, h2 => exact absurd h1 (by simp)
  · simp only [List.mem_cons, List.not_mem_nil, or_false, Abs.TV.one.injEq, reduceCtorEq, false_or, or_self, and_false] at hm
    all_goals first | (rcases hm with ⟨rfl, _⟩; rfl; done) | (rcases hm with ⟨rfl, _⟩ | ⟨rfl, _⟩ <;> rfl; done) | (rcases hm with ⟨rfl, _⟩ | ⟨rfl, _⟩ | ⟨rfl, _⟩ <;> rfl; done) | exact hm.elim
  subst he
  exact ⟨_, rfl, _, _, _, [], _, [], hW', trodAll_mk1 (shut_bool Try.underlying4 _), (trodAll_cons_mk (Below.trod laidOut (by kernel_rfl) (of_decide_eq_true (by kernel_rfl)) k0 bel lt0) trodAll_mk0), rfl, bel.frame _, fun h => by cases h⟩
theorem over : Rows.emitPlaysRow.holds Try.pinned (OpenSpec.ofChange Rows.emitPlaysSpec) :=
  OpenClaim.holds_of_wide 3 Try.f3 rfl rfl rfl rfl rfl rfl rfl ⟨rfl, rfl, rfl, rfl, rfl⟩ rfl rfl rfl rfl rfl (by kernel_rfl) Try.func3 (by kernel_rfl)
    (of_decide_eq_true (by kernel_rfl)) (by unfold Func.isWrapper; first | (rw [if_pos (by decide +kernel)]; kernel_rfl) | (rw [if_neg (by decide +kernel)]; exact ⟨rfl, rfl⟩))
    (fun os started H enc _ => lifted os started H enc)
theorem proved : Rows.EmitPlaysSaid := over
end Go.Proofs.Ytjaofdkkhhaikaa.emitPlays
namespace Go.Proofs.Ytjaofdkkhhaikaa
theorem emitPlays_holds : Rows.EmitPlaysSaid := emitPlays.proved
#print axioms emitPlays_holds
end Go.Proofs.Ytjaofdkkhhaikaa
