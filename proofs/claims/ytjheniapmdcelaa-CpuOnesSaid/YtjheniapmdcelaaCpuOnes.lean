/- The law CpuOnes: whatever the input, it answers true. No conditions. (Part CpuOnes of its proof.) -/
import Derived.Test.YtjheniapmdcelaaCpuOnesP
import Derived.Test.YtjheniapmdcelaaRows
import Derived.WalkKit
import Derived.ProofKit
import Derived.OpenShut
import Derived.ShutString
import Derived.ChangeOld
import Derived.Below
import Derived.SizedLaws
import Derived.Carry
set_option linter.unusedVariables false
set_option linter.unusedSimpArgs false
set_option linter.unusedSectionVars false
/- Printed by gen (walk.py): the row. -/
namespace Go.Proofs.Ytjheniapmdcelaa.cpuOnes
open Go Go.Proofs Go.ChangeShapes Go.WideShapes Go.ChangeAt Go.RowKit
set_option linter.unusedVariables false
theorem own : ownKnob Try.prog.godebug = none := by kernel_rfl
theorem laidOut : laidOutB Try.prog = true := by kernel_rfl
set_option maxRecDepth 100000 in
theorem lifted (os : Os) (started : os.Started) (H : Type) (enc : TypeId × Value → H) :
    ReturnsInHanded {} Try.checked os 11 .any (Rows.cpuOnesSpec.pre6 enc Try.prog Try.f11 Rows.cpuOnesRow.domain false) (Rows.cpuOnesSpec.post enc Try.prog Try.f11 false true false false) := by
  refine returnsInHanded_of_change_sized (C := Try.checked) own started (by kernel_rfl) Try.func11
    (ChangeSpec.witness6 (enc := enc) (C := Try.checked) false ⟨#[], #[.agg #[.int .u32 0, .int .u32 0, .int .u32 0, .int .u32 0, .int .u32 0, .int .u32 0, .int .u32 0, .int .u32 0, .int .u32 0, .slice none 0 0, .int .u32 0, .int .u32 0, .int .u32 0, .int .u32 0, .int .u32 0, .int .u32 0, .int .u32 0, .int .u32 0, .int .u32 0, .int .u32 0, .int .u32 0, .int .u32 0, .int .u32 0, .int .u32 0, .int .u32 0, .int .u32 0, .slice none 0 0], .agg #[.int .i64 0, .int .i64 0, .int .i64 0, .int .i64 0, .int .i64 0]], []⟩ 8 (by kernel_rfl) (by kernel_rfl) (by kernel_rfl) (by kernel_rfl)) ?_
  intro W base args ds gs before hval0 hW hcnd hsz0 _
  have hval : ∀ (j : Nat) t v, Try.f11.params[j]? = some t → args[j]? = some v → Value.okWide Try.prog W .any base t v := hval0
  have hW' := hW
  obtain ⟨p, q, hA0, hV, rfl, hfz, hnd⟩ := hW
  have hA : DataW.TrodAll enc Try.prog W 0 (fun _ => true) true Try.f11.params.toList args.toList ds p := hA0
  rw [Try.params11] at hA hval
  obtain ⟨v0, vs0, d0, ds0, p0, q0, hargs, rfl, rfl, h0, r0⟩ := trodAll_cons hA
  obtain ⟨v1, vs1, d1, ds1, p1, q1, rfl, rfl, rfl, h1, r1⟩ := trodAll_cons r0
  obtain ⟨rfl, rfl, rfl⟩ := trodAll_nil r1
  obtain rfl : args = #[v0, v1] := by cases args; simp_all
  obtain ⟨rfl, rfl⟩ := trodVars_none hV
  have k0 := h0
  have lt0 : ∀ x ∈ p0, x.block < W.heap.size := by obtain ⟨m, hm⟩ := k0; exact DataW.trod_lt m _ _ _ hm
  obtain ⟨fu0, hf0⟩ := h0
  obtain ⟨a0, w0, rd0⟩ := Abs.opens_law04_Case H enc W fu0 _ _ hf0
  obtain ⟨c0, rfl, cz0⟩ := okWide_struct Try.underlying96 (hval 0 96 v0 rfl rfl)
  have k1 := h1
  have lt1 : ∀ x ∈ p1, x.block < W.heap.size := by obtain ⟨m, hm⟩ := k1; exact DataW.trod_lt m _ _ _ hm
  obtain ⟨fu1, hf1⟩ := h1
  obtain ⟨a1, w1, rd1⟩ := Abs.opens_instr_Instr H enc W fu1 _ _ hf1
  obtain ⟨c1, rfl, cz1⟩ := okWide_struct Try.underlying98 (hval 1 98 v1 rfl rfl)
  obtain ⟨Hr, hlaw⟩ := Abs.CpuOnes_holds a0 a1 w0 w1
  clear hA0 hval0 hsz0
  have rt0 := Abs.arg_aggS (w := W) (i := 0) (cs := [(Abs.Md.top, Abs.AV.int .u32 a0.L_.Code_), (Abs.Md.top, Abs.AV.int .u32 a0.L_.Tables_), (Abs.Md.top, Abs.AV.int .u32 a0.L_.Data_), (Abs.Md.top, Abs.AV.int .u32 a0.L_.Heap_), (Abs.Md.top, Abs.AV.int .u32 a0.L_.Stack_), (Abs.Md.top, Abs.AV.int .u32 a0.S_.Entry_), (Abs.Md.top, Abs.AV.int .u32 a0.S_.Vector_), (Abs.Md.top, Abs.AV.int .u32 a0.S_.Guard_), (Abs.Md.top, Abs.AV.int .u32 a0.S_.Limit_), ((Abs.Md.own 0), Abs.AV.sl 1 (List.map (Abs.eI .u32) a0.Words_)), (Abs.Md.top, Abs.AV.int .u32 (a0.R_.g 0)), (Abs.Md.top, Abs.AV.int .u32 (a0.R_.g 1)), (Abs.Md.top, Abs.AV.int .u32 (a0.R_.g 2)), (Abs.Md.top, Abs.AV.int .u32 (a0.R_.g 3)), (Abs.Md.top, Abs.AV.int .u32 (a0.R_.g 4)), (Abs.Md.top, Abs.AV.int .u32 (a0.R_.g 5)), (Abs.Md.top, Abs.AV.int .u32 (a0.R_.g 6)), (Abs.Md.top, Abs.AV.int .u32 (a0.R_.g 7)), (Abs.Md.top, Abs.AV.int .u32 (a0.R_.g 8)), (Abs.Md.top, Abs.AV.int .u32 (a0.R_.g 9)), (Abs.Md.top, Abs.AV.int .u32 (a0.R_.g 10)), (Abs.Md.top, Abs.AV.int .u32 (a0.R_.g 11)), (Abs.Md.top, Abs.AV.int .u32 (a0.R_.g 12)), (Abs.Md.top, Abs.AV.int .u32 (a0.R_.g 13)), (Abs.Md.top, Abs.AV.int .u32 (a0.R_.g 14)), (Abs.Md.top, Abs.AV.int .u32 (a0.R_.g 15)), ((Abs.Md.own 0), Abs.AV.sl 1 (List.map (Abs.eI .i32) a0.Input_))]) (vs := c0) rd0 (by simp [Abs.AV.scalar])
  have rt1 := Abs.arg_aggS (w := W) (i := 1) (cs := [(Abs.Md.top, Abs.AV.int .i64 a1.Op_), (Abs.Md.top, Abs.AV.int .i64 a1.A_), (Abs.Md.top, Abs.AV.int .i64 a1.B_), (Abs.Md.top, Abs.AV.int .i64 a1.C_), (Abs.Md.top, Abs.AV.int .i64 a1.Imm_)]) (vs := c1) rd1 (by simp [Abs.AV.scalar])
  refine (Abs.law_true (X := Abs.X) (w := W) (us := #[.agg c0, .agg c1]) (by kernel_rfl) (Abs.ok_law04_CpuOnes [] hlaw) rfl (fun j tv u h1 h2 => ?_) (fun m c hm => ?_)).mono fun e W' ⟨he, bel⟩ => ?_
  · match j, h1, h2 with
    | 0, h1, h2 => cases h1; cases h2; exact rt0
    | 1, h1, h2 => cases h1; cases h2; exact rt1
    | k + 2, h1, h2 => exact absurd h1 (by simp)
  · simp only [List.mem_cons, List.not_mem_nil, or_false, Abs.TV.one.injEq, reduceCtorEq, false_or, or_self, and_false] at hm
    all_goals first | (rcases hm with ⟨rfl, _⟩; rfl; done) | (rcases hm with ⟨rfl, _⟩ | ⟨rfl, _⟩ <;> rfl; done) | (rcases hm with ⟨rfl, _⟩ | ⟨rfl, _⟩ | ⟨rfl, _⟩ <;> rfl; done) | exact hm.elim
  subst he
  exact ⟨_, rfl, _, _, _, [], _, [], hW', trodAll_mk1 (shut_bool Try.underlying4 _), (trodAll_cons_mk (Below.trod laidOut (by kernel_rfl) (of_decide_eq_true (by kernel_rfl)) k0 bel lt0) (trodAll_cons_mk (Below.trod laidOut (by kernel_rfl) (of_decide_eq_true (by kernel_rfl)) k1 bel lt1) trodAll_mk0)), rfl, bel.frame _, fun h => by cases h⟩
theorem over : Rows.cpuOnesRow.holds Try.pinned (OpenSpec.ofChange Rows.cpuOnesSpec) :=
  OpenClaim.holds_of_wide 11 Try.f11 rfl rfl rfl rfl rfl rfl rfl ⟨rfl, rfl, rfl, rfl, rfl⟩ rfl rfl rfl rfl rfl (by kernel_rfl) Try.func11 (by kernel_rfl)
    (of_decide_eq_true (by kernel_rfl)) (by unfold Func.isWrapper; first | (rw [if_pos (by decide +kernel)]; kernel_rfl) | (rw [if_neg (by decide +kernel)]; exact ⟨rfl, rfl⟩))
    (fun os started H enc _ => lifted os started H enc)
theorem proved : Rows.CpuOnesSaid := over
end Go.Proofs.Ytjheniapmdcelaa.cpuOnes
namespace Go.Proofs.Ytjheniapmdcelaa
theorem cpuOnes_holds : Rows.CpuOnesSaid := cpuOnes.proved
#print axioms cpuOnes_holds
end Go.Proofs.Ytjheniapmdcelaa
