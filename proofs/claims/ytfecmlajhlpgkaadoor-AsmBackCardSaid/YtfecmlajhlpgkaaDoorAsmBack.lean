/- The law AsmBack: whatever the input, it answers true. No conditions. (Part AsmBack of its proof.) -/
import Derived.Test.YtfecmlajhlpgkaaDoorAsmBackSh
import Derived.Test.YtfecmlajhlpgkaaDoorRows
import Derived.Test.YtfecmlajhlpgkaaDoorCards
import Derived.Test.YtfecmlajhlpgkaaDoorTie
import Derived.Lib.LaidIn
import Derived.Lib.LaidU8T
import Derived.Deep.DeepHandedRow
import Derived.Deep.DeepWitnessRowRef
import Derived.WalkKit
import Derived.ProofKit
import Derived.OpenShut
import Derived.ShutString
import Derived.ChangeOld
import Derived.Below
import Derived.SizedLaws
import Derived.Carry
set_option linter.unusedVariables false
set_option linter.unusedSimpArgs false
set_option linter.unusedSectionVars false
/- Printed by gen (walk.py): the row. -/
namespace Go.Proofs.YtfecmlajhlpgkaaDoor.asmBack
open Go Go.Proofs Go.ChangeShapes Go.WideShapes Go.ChangeAt Go.RowKit
set_option linter.unusedVariables false
theorem own : ownKnob Tryd.prog.godebug = none := by kernel_rfl
theorem laidOut : laidOutB Tryd.prog = true := by kernel_rfl
noncomputable def laidWorld (os : Os) : World :=
  let w0 := World.holding Tryd.prog os ⟨#[], #[], []⟩
  let put (h : Array Obj) (g : Nat) (cs : Array Value) : Array Obj := h.modify g fun
    | .cells _ t frozen => .cells cs t frozen
    | o => o
  let h1 := put w0.heap 1 (Lib.firstTab.map fun z => Value.int .u8 z).toArray
  let h2 := put h1 2 ((List.range 16).flatMap fun i => [Value.int .u8 (Lib.accLo i), Value.int .u8 (Lib.accHi i)]).toArray
  { w0 with heap := h2 }
theorem laid_met (os : Os) (args : Array Value) : laidMet Tryd.prog Rows.asmBackRow.laid ((laidWorld os).forCall (fun _ _ => 0) ⟨#[], args, []⟩).memory :=
  (LaidIn.of_run (l := Rows.asmBackRow.laid) [1, 2] 8 (by kernel_rfl) (by kernel_rfl) (by kernel_rfl) (by kernel_rfl)).met
theorem reads (os : Os) {H : Type} (enc : TypeId × Value → H) : ∃ x, DataW.whole enc Tryd.prog ((laidWorld os).forCall (fun _ _ => 0) ⟨#[], #[.slice none 0 0], []⟩).memory Tryd.f6.params.toList Rows.asmBackSpec.vars false (#[.slice none 0 0] : Array Value).toList 8 = some x := by
  have hw : (DataW.whole enc Tryd.prog ((laidWorld os).forCall (fun _ _ => 0) ⟨#[], #[.slice none 0 0], []⟩).memory Tryd.f6.params.toList Rows.asmBackSpec.vars false (#[.slice none 0 0] : Array Value).toList 8).isSome = true := by kernel_rfl
  exact Option.isSome_iff_exists.1 hw
theorem glob {W : World} (hsh : W.ShapedOpen Tryd.prog) : Abs.Glob Abs.X W Abs.gAll := fun b hb => by
  obtain rfl : b = 0 := by simpa [show Abs.X.gs = [0] from rfl] using hb
  obtain ⟨m, hm⟩ := Tryd.laysM146.s1_3 W hsh
  exact ⟨World.block_lt_of_cell? _ _ hm, rfl, m, hm⟩
theorem ctOk0 : Abs.CtOk { Abs.X with ct := Abs.ctT 19 67 102 } :=
  Abs.ctOk_of (a := 19) (b := 67) (c := 102) (fun _ _ => rfl) rfl ⟨Tryd.f19, Tryd.func19, by kernel_rfl, by kernel_rfl⟩ ⟨Tryd.f67, Tryd.func67, by kernel_rfl, by kernel_rfl⟩ ⟨Tryd.f102, Tryd.func102, by kernel_rfl, by kernel_rfl⟩
    (fun s sep m w hs hm h1 => (Any.strings_Split { Tryd.laysM146 with } Tryd.laysM146.i9 s sep m w hs hm h1).mono fun e w' ⟨h2, h3⟩ => ⟨h2, _, h3⟩)
    (fun s sep m w hs hm => Any.strings_Cut Tryd.lays145 s sep m w hs hm) (fun s c w => Any.strings_IndexByte Tryd.lays137 s c w)
theorem ctOk : Abs.CtOk Abs.X :=
  Abs.ctOk_add (S := Abs.sourceC) ctOk0 (fun _ _ => rfl) ⟨Tryd.f17, Tryd.func17, by kernel_rfl, by kernel_rfl⟩ Abs.source_holds
set_option maxRecDepth 100000 in
theorem lifted (os : Os) (started : os.Started) (H : Type) (enc : TypeId × Value → H) (F : Stop.Interp) :
    ReturnsInHanded {} Tryd.checked os 6 .any ((OpenSpec.ofChange Rows.asmBackSpec).preRow enc Tryd.prog Tryd.f6 Rows.asmBackRow.domain false Rows.asmBackRow.laid) (((OpenSpec.ofChange Rows.asmBackSpec).at F).post enc Tryd.prog Tryd.f6 false true false false) := by
  obtain ⟨⟨x1, x2, x3⟩, hx⟩ := reads os enc
  refine returnsInHanded_of_row (C := Tryd.checked) (s := OpenSpec.ofChange Rows.asmBackSpec) own started (by kernel_rfl) Tryd.func6
    (witness_row_atRef (enc := enc) (C := Tryd.checked) false (laidWorld os) #[.slice none 0 0] rfl (by kernel_rfl) (by kernel_rfl) (by kernel_rfl)
      (OpenSpec.preRow_of_cond 8 hx (by kernel_rfl) (fun k hk => by cases hk) (by kernel_rfl) (laid_met os _))) ?_
  intro W base args ds gs before hval0 hW _ _ hsz0 hL hsh _
  have hval : ∀ (j : Nat) t v, Tryd.f6.params[j]? = some t → args[j]? = some v → Value.okWide Tryd.prog W .any base t v := hval0
  have hW' := hW
  obtain ⟨p, q, hA0, hV, rfl, hfz, hnd⟩ := hW
  have hA : DataW.TrodAll enc Tryd.prog W 0 (fun _ => true) true Tryd.f6.params.toList args.toList ds p := hA0
  rw [Tryd.params6] at hA hval
  obtain ⟨v0, vs0, d0, ds0, p0, q0, hargs, rfl, rfl, h0, r0⟩ := trodAll_cons hA
  obtain ⟨rfl, rfl, rfl⟩ := trodAll_nil r0
  obtain rfl : args = #[v0] := by cases args; simp_all
  obtain ⟨rfl, rfl⟩ := trodVars_none hV
  have k0 := h0
  have lt0 : ∀ x ∈ p0, x.block < W.heap.size := by obtain ⟨m, hm⟩ := k0; exact DataW.trod_lt m _ _ _ hm
  obtain ⟨fu0, hf0⟩ := h0
  obtain ⟨a0, w0, rd0⟩ := (Abs.opens_slice (z := 1) Tryd.underlying23 (by kernel_rfl) (by kernel_rfl) (fun _ => rfl) (Abs.opens_int Tryd.underlying45)) H enc W fu0 _ _ hf0
  obtain ⟨b0, len0, cap0, rfl⟩ := okWide_slice Tryd.underlying23 (hval 0 23 v0 rfl rfl)
  have hlaw := Abs.AsmBack_holds a0 w0
  clear hA0 hval0 hsz0
  have rt0 := Abs.arg_one (w := W) (i := 0) rd0 rfl
  refine (Abs.law_true (X := Abs.X) (w := W) (us := #[.slice b0 len0 cap0]) (by kernel_rfl) ctOk (glob hsh) (Abs.ok_law05_AsmBack [] hlaw) rfl (fun j tv u h1 h2 => ?_) (fun m c hm => ?_)).mono fun e W' ⟨he, bel⟩ => ?_
  · match j, h1, h2 with
    | 0, h1, h2 => cases h1; cases h2; exact rt0
    | k + 1, h1, h2 => exact absurd h1 (by simp)
  · simp only [List.mem_cons, List.not_mem_nil, or_false, Abs.TV.one.injEq, reduceCtorEq, false_or, or_self, and_false] at hm
    all_goals first | (rcases hm with ⟨rfl, _⟩; rfl; done) | (rcases hm with ⟨rfl, _⟩ | ⟨rfl, _⟩ <;> rfl; done) | (rcases hm with ⟨rfl, _⟩ | ⟨rfl, _⟩ | ⟨rfl, _⟩ <;> rfl; done) | exact hm.elim
  subst he
  exact ⟨_, rfl, _, _, _, [], _, [], hW', trodAll_mk1 (shut_bool Tryd.underlying4 _), (trodAll_cons_mk (Below.trod laidOut (by kernel_rfl) (of_decide_eq_true (by kernel_rfl)) k0 bel lt0) trodAll_mk0), rfl, bel.frame _, fun h => by cases h⟩
theorem said : Rows.AsmBackSaid :=
  OpenClaim.holds_of_cond 6 Tryd.f6 rfl rfl rfl rfl rfl rfl rfl ⟨rfl, rfl, rfl, rfl, rfl⟩ rfl rfl rfl rfl rfl (by kernel_rfl) Tryd.func6 (by kernel_rfl)
    (of_decide_eq_true (by kernel_rfl)) (by unfold Func.isWrapper; first | (rw [if_pos (by decide +kernel)]; kernel_rfl) | (rw [if_neg (by decide +kernel)]; exact ⟨rfl, rfl⟩))
    (fun os started H enc _ F => by rw [OpenClaim.pre_eq_preRow]; exact lifted os started H enc F)
theorem plain (f : FuncId) (fn : Func) (hf : Tryd.pinned.checked.prog.funcNamed Rows.asmBackRow.func = some f) (hfn : Tryd.pinned.checked.prog.funcs[f]? = some fn) :
    false = Tryd.pinned.checked.prog.looks [] ∧ ∀ (j : Nat) t, fn.params[j]? = some t → Tryd.pinned.checked.prog.wantsStandIn t = false := by
  obtain rfl : f = 6 := Option.some.inj ((show Tryd.prog.funcNamed Rows.asmBackRow.func = some 6 by kernel_rfl).symm.trans hf) |>.symm
  obtain rfl : fn = Tryd.f6 := (Option.some.inj (Tryd.func6.symm.trans hfn)).symm
  refine ⟨by kernel_rfl, fun j t ht => ?_⟩
  rw [Tryd.params6] at ht
  match j, ht with
  | 0, ht => cases ht; exact (show Tryd.prog.wantsStandIn 23 = false by kernel_rfl)
  | k + 1, ht => simp at ht
theorem card : Rows.AsmBackCardSaid :=
  Claim7.holds_tied_plain_at .later [] _ _ _ _ said (fun _ h => by cases h) (by kernel_rfl) (fun _ h => by cases h) asmBack_row_tie rfl ⟨rfl, rfl⟩ (by kernel_rfl) rfl plain (by kernel_rfl)
end Go.Proofs.YtfecmlajhlpgkaaDoor.asmBack
namespace Go.Proofs.YtfecmlajhlpgkaaDoor
theorem asmBack_holds : Rows.AsmBackCardSaid := asmBack.card
#print axioms asmBack_holds
end Go.Proofs.YtfecmlajhlpgkaaDoor
