/- The law TypesTells: whatever the input, it answers true. No conditions. (Part TypesTellsF2 of its proof.) -/
import Derived.Test.YtdfdjhimecmkfaaTypesTellsF1
set_option linter.unusedVariables false
set_option linter.unusedSimpArgs false
set_option linter.unusedSectionVars false
/- Printed by gen (walk.py). -/
namespace Go.Proofs.Abs
open Go Go.Proofs
set_option linter.unusedVariables false
set_option maxRecDepth 100000
set_option maxHeartbeats 0
noncomputable def types_Table_Takes (H : Heap) (p0 : Ptr) (p1 : Int) (p2 : Int) : Option (Bool) :=
  if (p1 == p2) = true then (bind1 (types_Table_Simple H p0 p1) fun r2 =>
  some (r2 && (p1 != 4)))
  else (bind1 (types_Table_kind H p0 p1) fun r5 =>
  some ((r5 == 7) && (p2 == 4)))
theorem ok_types_Table_Takes (H : Heap) {p0 : Ptr} {p1 : Int} {p2 : Int} {ra : Bool} (hF : types_Table_Takes H p0 p1 p2 = some ra) : evS X 37 [.one .top (Ptr.av p0), .one .top (.int .i64 p1), .one .top (.int .i64 p2)] H = some (.one .top (.bool ra), H) := by
  let E1 : Ptr → Nat × TV := fun z0 => (0, .one .top (Ptr.av z0))
  let E2 : Nat × TV := (1, .one .top (.int .i64 p1))
  let E3 : Nat × TV := (2, .one .top (.int .i64 p2))
  let E4 : Ptr → Nat × TV := fun z0 => (10, .one .top (Ptr.av z0))
  let E5 : Nat × TV := (11, .one .top (.int .i64 p1))
  let E6 : Ptr → Nat × TV := fun z0 => (17, .one .top (Ptr.av z0))
  let E7 : Nat × TV := (18, .one .top (.int .i64 p1))
  let S9 : Ptr → St := fun z0 => ⟨[(E1 z0), E2, E3], [], H⟩
  let S10 : Ptr → St := fun z0 => ⟨[(E1 z0), E2, (E4 z0), E5], [], H⟩
  let S11 : Ptr → St := fun z0 => ⟨[(E1 z0), E2, E3, (E6 z0), E7], [], H⟩
  refine w_fun Try.func37 rfl (by kernel_rfl) true (by kernel_rfl) (s0 := (S9 p0)) (by kernel_rfl) ?_
  unfold types_Table_Takes at hF
  refine w_seq ?_
  refine w_reg (S9 p0) (by generalize p0 = qp0; cases qp0 <;> kernel_rfl) ?_
  refine w_seq ?_
  refine w_seq ?_
  refine w_reg ⟨[(E1 p0), E2, E3, (9, .one .top (.bool (p1 == p2)))], [], H⟩ (by generalize p0 = qp0; cases qp0 <;> kernel_rfl) ?_
  rcases if_inv hF with ⟨h1, hF⟩ | ⟨h1, hF⟩
  refine w_cT (m := .top) h1 (s1 := (⟨[(E1 p0), E2], [], H⟩ : St)) (by kernel_rfl) (by kernel_rfl) ?_
  refine w_seq ?_
  obtain ⟨r2, c3, hF⟩ := bind1_inv hF
  refine w_regO ⟨[(6, .one .top (.bool (r2 && (p1 != 4))))], [], H⟩ ?_ ?_
  refine o_run 2 (S10 p0) (by kernel_rfl) (by generalize p0 = qp0; cases qp0 <;> kernel_rfl) ?_
  refine o_one ⟨[(E1 p0), E2, (E4 p0), E5, (12, .one .top (.bool r2))], [], H⟩ (st_call (d := (some 12)) (fz := false) (pure := true) (own := false) (S10 p0) (ok_types_Table_Simple H c3) (by generalize p0 = qp0; cases qp0 <;> kernel_rfl) (by generalize p0 = qp0; cases qp0 <;> kernel_rfl)) ?_
  refine o_run 1 ⟨[(E1 p0), E2, (E4 p0), E5, (12, .one .top (.bool r2)), (13, .one .top (.bool r2))], [], H⟩ (by kernel_rfl) (by generalize p0 = qp0; cases qp0 <;> kernel_rfl) ?_
  rcases bool_cases r2 with h4 | h4
  refine o_eq (congrArg (fun q => (⟨[(E1 p0), E2, (E4 p0), E5, (12, .one .top (.bool q)), (13, .one .top (.bool q))], [], H⟩ : St)) h4) ?_
  refine o_run 4 ⟨[(E1 p0), E2, (6, .one .top (.bool (p1 != 4))), (E4 p0), E5, (12, .one .top (.bool true)), (13, .one .top (.bool true)), (14, .one .top (.int .i64 p1)), (15, .one .top (.bool (p1 != 4))), (16, .one .top (.bool (p1 != 4)))], [], H⟩ (by kernel_rfl) (by generalize p0 = qp0; cases qp0 <;> kernel_rfl) ?_
  refine o_eq2 (congrArg (fun q0 => (⟨[(6, .one .top (.bool q0))], [], H⟩ : St)) (show (p1 != 4) = (r2 && (p1 != 4)) by simp [h4])) ?_
  exact o_end (by kernel_rfl) (by kernel_rfl)
  refine o_eq (congrArg (fun q => (⟨[(E1 p0), E2, (E4 p0), E5, (12, .one .top (.bool q)), (13, .one .top (.bool q))], [], H⟩ : St)) h4) ?_
  refine o_run 4 ⟨[(E1 p0), E2, (6, .one .top (.bool false)), (E4 p0), E5, (12, .one .top (.bool false)), (13, .one .top (.bool false)), (14, .tup []), (15, .tup []), (16, .one .top (.bool false))], [], H⟩ (by kernel_rfl) (by generalize p0 = qp0; cases qp0 <;> kernel_rfl) ?_
  refine o_eq2 (congrArg (fun q0 => (⟨[(6, .one .top (.bool q0))], [], H⟩ : St)) (show false = (r2 && (p1 != 4)) by simp [h4])) ?_
  exact o_end (by kernel_rfl) (by kernel_rfl)
  refine w_ret ?_
  obtain e0 := some1_inv hF
  subst e0
  exact fin_pure (v := .one .top (.bool (r2 && (p1 != 4)))) (by kernel_rfl) (by kernel_rfl) rfl (by kernel_rfl)
  refine w_cF (m := .top) h1 (s1 := (S9 p0)) (by kernel_rfl) (by kernel_rfl) ?_
  refine w_skip ?_
  refine w_seq ?_
  obtain ⟨r5, c6, hF⟩ := bind1_inv hF
  let E8 : Nat × TV := (19, .one .top (.int .i64 r5))
  refine w_regO ⟨[(6, .one .top (.bool ((r5 == 7) && (p2 == 4))))], [], H⟩ ?_ ?_
  refine o_run 2 (S11 p0) (by kernel_rfl) (by generalize p0 = qp0; cases qp0 <;> kernel_rfl) ?_
  refine o_one ⟨[(E1 p0), E2, E3, (E6 p0), E7, E8], [], H⟩ (st_call (d := (some 19)) (fz := false) (pure := true) (own := false) (S11 p0) (ok_types_Table_kind H c6) (by generalize p0 = qp0; cases qp0 <;> kernel_rfl) (by generalize p0 = qp0; cases qp0 <;> kernel_rfl)) ?_
  refine o_run 2 ⟨[(E1 p0), E2, E3, (E6 p0), E7, E8, (20, .one .top (.bool (r5 == 7))), (21, .one .top (.bool (r5 == 7)))], [], H⟩ (by kernel_rfl) (by generalize p0 = qp0; cases qp0 <;> kernel_rfl) ?_
  rcases bool_cases (r5 == 7) with h7 | h7
  refine o_eq (congrArg (fun q => (⟨[(E1 p0), E2, E3, (E6 p0), E7, E8, (20, .one .top (.bool q)), (21, .one .top (.bool q))], [], H⟩ : St)) h7) ?_
  refine o_run 4 ⟨[(E1 p0), E2, E3, (6, .one .top (.bool (p2 == 4))), (E6 p0), E7, E8, (20, .one .top (.bool true)), (21, .one .top (.bool true)), (22, .one .top (.int .i64 p2)), (23, .one .top (.bool (p2 == 4))), (24, .one .top (.bool (p2 == 4)))], [], H⟩ (by kernel_rfl) (by generalize p0 = qp0; cases qp0 <;> kernel_rfl) ?_
  refine o_eq2 (congrArg (fun q0 => (⟨[(6, .one .top (.bool q0))], [], H⟩ : St)) (show (p2 == 4) = ((r5 == 7) && (p2 == 4)) by simp [h7])) ?_
  exact o_end (by kernel_rfl) (by kernel_rfl)
  refine o_eq (congrArg (fun q => (⟨[(E1 p0), E2, E3, (E6 p0), E7, E8, (20, .one .top (.bool q)), (21, .one .top (.bool q))], [], H⟩ : St)) h7) ?_
  refine o_run 4 ⟨[(E1 p0), E2, E3, (6, .one .top (.bool false)), (E6 p0), E7, E8, (20, .one .top (.bool false)), (21, .one .top (.bool false)), (22, .tup []), (23, .tup []), (24, .one .top (.bool false))], [], H⟩ (by kernel_rfl) (by generalize p0 = qp0; cases qp0 <;> kernel_rfl) ?_
  refine o_eq2 (congrArg (fun q0 => (⟨[(6, .one .top (.bool q0))], [], H⟩ : St)) (show false = ((r5 == 7) && (p2 == 4)) by simp [h7])) ?_
  exact o_end (by kernel_rfl) (by kernel_rfl)
  refine w_ret ?_
  obtain e0 := some1_inv hF
  subst e0
  exact fin_pure (v := .one .top (.bool ((r5 == 7) && (p2 == 4)))) (by kernel_rfl) (by kernel_rfl) rfl (by kernel_rfl)
noncomputable def ref09_Takes  (p0 : (List T_ref09_Type)) (p1 : Int) (p2 : Int) : Option (Bool) :=
  if (p1 == p2) = true then (bind1 (ref09_Simple p0 p1) fun r2 =>
  some (r2 && (p1 != 4)))
  else (bind1 (ref09_Get p0 p1) fun r5 =>
  some ((r5.Kind_ == 7) && (p2 == 4)))
theorem ok_ref09_Takes (H : Heap) {p0 : (List T_ref09_Type)} {p1 : Int} {p2 : Int} {ra : Bool} (hF : ref09_Takes p0 p1 p2 = some ra) : evS X 38 [.one (.own 0) (.sl 6 (List.map e_ref09_Type p0)), .one .top (.int .i64 p1), .one .top (.int .i64 p2)] H = some (.one .top (.bool ra), H) := by
  let E1 : Nat × TV := (0, .one (.own 0) (.sl 6 (List.map e_ref09_Type p0)))
  let E2 : Nat × TV := (1, .one .top (.int .i64 p1))
  let E3 : Nat × TV := (2, .one .top (.int .i64 p2))
  let E4 : Nat × TV := (10, .one (.own 0) (.sl 6 (List.map e_ref09_Type p0)))
  let E5 : Nat × TV := (11, .one .top (.int .i64 p1))
  let E6 : Nat × TV := (17, .one (.own 0) (.sl 6 (List.map e_ref09_Type p0)))
  let E7 : Nat × TV := (18, .one .top (.int .i64 p1))
  let S10 : St := ⟨[E1, E2, E3], [], H⟩
  let S11 : St := ⟨[E1, E2, E4, E5], [], H⟩
  let S12 : St := ⟨[E1, E2, E3, E6, E7], [], H⟩
  refine w_fun Try.func38 rfl (by kernel_rfl) true (by kernel_rfl) (s0 := S10) (by kernel_rfl) ?_
  unfold ref09_Takes at hF
  refine w_seq ?_
  refine w_reg S10 (by kernel_rfl) ?_
  refine w_seq ?_
  refine w_seq ?_
  refine w_reg ⟨[E1, E2, E3, (9, .one .top (.bool (p1 == p2)))], [], H⟩ (by kernel_rfl) ?_
  rcases if_inv hF with ⟨h1, hF⟩ | ⟨h1, hF⟩
  refine w_cT (m := .top) h1 (s1 := (⟨[E1, E2], [], H⟩ : St)) (by kernel_rfl) (by kernel_rfl) ?_
  refine w_seq ?_
  obtain ⟨r2, c3, hF⟩ := bind1_inv hF
  refine w_regO ⟨[(6, .one .top (.bool (r2 && (p1 != 4))))], [], H⟩ ?_ ?_
  refine o_run 2 S11 (by kernel_rfl) (by kernel_rfl) ?_
  refine o_one ⟨[E1, E2, E4, E5, (12, .one .top (.bool r2))], [], H⟩ (st_call (d := (some 12)) (fz := false) (pure := true) (own := false) S11 (ok_ref09_Simple H c3) (by kernel_rfl) (by kernel_rfl)) ?_
  refine o_run 1 ⟨[E1, E2, E4, E5, (12, .one .top (.bool r2)), (13, .one .top (.bool r2))], [], H⟩ (by kernel_rfl) (by kernel_rfl) ?_
  rcases bool_cases r2 with h4 | h4
  refine o_eq (congrArg (fun q => (⟨[E1, E2, E4, E5, (12, .one .top (.bool q)), (13, .one .top (.bool q))], [], H⟩ : St)) h4) ?_
  refine o_run 4 ⟨[E1, E2, (6, .one .top (.bool (p1 != 4))), E4, E5, (12, .one .top (.bool true)), (13, .one .top (.bool true)), (14, .one .top (.int .i64 p1)), (15, .one .top (.bool (p1 != 4))), (16, .one .top (.bool (p1 != 4)))], [], H⟩ (by kernel_rfl) (by kernel_rfl) ?_
  refine o_eq2 (congrArg (fun q0 => (⟨[(6, .one .top (.bool q0))], [], H⟩ : St)) (show (p1 != 4) = (r2 && (p1 != 4)) by simp [h4])) ?_
  exact o_end (by kernel_rfl) (by kernel_rfl)
  refine o_eq (congrArg (fun q => (⟨[E1, E2, E4, E5, (12, .one .top (.bool q)), (13, .one .top (.bool q))], [], H⟩ : St)) h4) ?_
  refine o_run 4 ⟨[E1, E2, (6, .one .top (.bool false)), E4, E5, (12, .one .top (.bool false)), (13, .one .top (.bool false)), (14, .tup []), (15, .tup []), (16, .one .top (.bool false))], [], H⟩ (by kernel_rfl) (by kernel_rfl) ?_
  refine o_eq2 (congrArg (fun q0 => (⟨[(6, .one .top (.bool q0))], [], H⟩ : St)) (show false = (r2 && (p1 != 4)) by simp [h4])) ?_
  exact o_end (by kernel_rfl) (by kernel_rfl)
  refine w_ret ?_
  obtain e0 := some1_inv hF
  subst e0
  exact fin_pure (v := .one .top (.bool (r2 && (p1 != 4)))) (by kernel_rfl) (by kernel_rfl) rfl (by kernel_rfl)
  refine w_cF (m := .top) h1 (s1 := S10) (by kernel_rfl) (by kernel_rfl) ?_
  refine w_skip ?_
  refine w_seq ?_
  obtain ⟨r5, c6, hF⟩ := bind1_inv hF
  let E8 : Nat × TV := (19, .agg (m0_ref09_Type r5))
  let E9 : Nat × TV := (20, .one .top (.int .i64 r5.Kind_))
  refine w_regO ⟨[(6, .one .top (.bool ((r5.Kind_ == 7) && (p2 == 4))))], [], H⟩ ?_ ?_
  refine o_run 2 S12 (by kernel_rfl) (by kernel_rfl) ?_
  refine o_one ⟨[E1, E2, E3, E6, E7, E8], [], H⟩ (st_call (d := (some 19)) (fz := false) (pure := true) (own := false) S12 (ok_ref09_Get H c6) (by kernel_rfl) (by kernel_rfl)) ?_
  refine o_run 3 ⟨[E1, E2, E3, E6, E7, E8, E9, (21, .one .top (.bool (r5.Kind_ == 7))), (22, .one .top (.bool (r5.Kind_ == 7)))], [], H⟩ (by kernel_rfl) (by kernel_rfl) ?_
  rcases bool_cases (r5.Kind_ == 7) with h7 | h7
  refine o_eq (congrArg (fun q => (⟨[E1, E2, E3, E6, E7, E8, E9, (21, .one .top (.bool q)), (22, .one .top (.bool q))], [], H⟩ : St)) h7) ?_
  refine o_run 4 ⟨[E1, E2, E3, (6, .one .top (.bool (p2 == 4))), E6, E7, E8, E9, (21, .one .top (.bool true)), (22, .one .top (.bool true)), (23, .one .top (.int .i64 p2)), (24, .one .top (.bool (p2 == 4))), (25, .one .top (.bool (p2 == 4)))], [], H⟩ (by kernel_rfl) (by kernel_rfl) ?_
  refine o_eq2 (congrArg (fun q0 => (⟨[(6, .one .top (.bool q0))], [], H⟩ : St)) (show (p2 == 4) = ((r5.Kind_ == 7) && (p2 == 4)) by simp [h7])) ?_
  exact o_end (by kernel_rfl) (by kernel_rfl)
  refine o_eq (congrArg (fun q => (⟨[E1, E2, E3, E6, E7, E8, E9, (21, .one .top (.bool q)), (22, .one .top (.bool q))], [], H⟩ : St)) h7) ?_
  refine o_run 4 ⟨[E1, E2, E3, (6, .one .top (.bool false)), E6, E7, E8, E9, (21, .one .top (.bool false)), (22, .one .top (.bool false)), (23, .tup []), (24, .tup []), (25, .one .top (.bool false))], [], H⟩ (by kernel_rfl) (by kernel_rfl) ?_
  refine o_eq2 (congrArg (fun q0 => (⟨[(6, .one .top (.bool q0))], [], H⟩ : St)) (show false = ((r5.Kind_ == 7) && (p2 == 4)) by simp [h7])) ?_
  exact o_end (by kernel_rfl) (by kernel_rfl)
  refine w_ret ?_
  obtain e0 := some1_inv hF
  subst e0
  exact fin_pure (v := .one .top (.bool ((r5.Kind_ == 7) && (p2 == 4)))) (by kernel_rfl) (by kernel_rfl) rfl (by kernel_rfl)
noncomputable def types_Table_Equals (H : Heap) (p0 : Ptr) (p1 : Int) (p2 : Int) : Option (Bool) :=
  bind1 (types_Table_Takes H p0 p1 p2) fun r1 =>
  bind1 (if r1 = true then (some true) else (bind1 (types_Table_Takes H p0 p2 p1) fun r4 =>
  if r4 = true then (some true) else (if (p1 == 4) = true then (some (p2 == 4)) else (some false)))) fun w8 =>
  some w8
theorem ok_types_Table_Equals (H : Heap) {p0 : Ptr} {p1 : Int} {p2 : Int} {ra : Bool} (hF : types_Table_Equals H p0 p1 p2 = some ra) : evS X 39 [.one .top (Ptr.av p0), .one .top (.int .i64 p1), .one .top (.int .i64 p2)] H = some (.one .top (.bool ra), H) := by
  let E1 : Ptr → Nat × TV := fun z0 => (0, .one .top (Ptr.av z0))
  let E2 : Nat × TV := (1, .one .top (.int .i64 p1))
  let E3 : Nat × TV := (2, .one .top (.int .i64 p2))
  let E4 : Ptr → Nat × TV := fun z0 => (7, .one .top (Ptr.av z0))
  let E5 : Nat × TV := (8, .one .top (.int .i64 p1))
  let E6 : Nat × TV := (9, .one .top (.int .i64 p2))
  let E7 : Nat × TV := (10, .one .top (.bool false))
  let E8 : Nat × TV := (11, .one .top (.bool false))
  let E9 : Ptr → Nat × TV := fun z0 => (12, .one .top (Ptr.av z0))
  let E10 : Nat × TV := (13, .one .top (.int .i64 p2))
  let E11 : Nat × TV := (14, .one .top (.int .i64 p1))
  let E12 : Nat × TV := (15, .one .top (.bool false))
  let E13 : Nat × TV := (16, .one .top (.bool false))
  let E14 : Nat × TV := (17, .one .top (.bool false))
  let E15 : Nat × TV := (18, .one .top (.int .i64 p1))
  let S16 : Ptr → St := fun z0 => ⟨[(E1 z0), E2, E3], [], H⟩
  let S17 : Ptr → St := fun z0 => ⟨[(E1 z0), E2, E3, (E4 z0), E5, E6], [], H⟩
  let S18 : Ptr → St := fun z0 => ⟨[(E1 z0), E2, E3, (E4 z0), E5, E6, E7, E8, (E9 z0), E10, E11], [], H⟩
  refine w_fun Try.func39 rfl (by kernel_rfl) true (by kernel_rfl) (s0 := (S16 p0)) (by kernel_rfl) ?_
  unfold types_Table_Equals at hF
  refine w_seq ?_
  refine w_reg (S16 p0) (by generalize p0 = qp0; cases qp0 <;> kernel_rfl) ?_
  refine w_seq ?_
  obtain ⟨r1, c2, hF⟩ := bind1_inv hF
  obtain ⟨w8, hB9, hF⟩ := bind1_inv hF
  refine w_regO ⟨[(6, .one .top (.bool w8))], [], H⟩ ?_ ?_
  refine o_run 3 (S17 p0) (by kernel_rfl) (by generalize p0 = qp0; cases qp0 <;> kernel_rfl) ?_
  refine o_one ⟨[(E1 p0), E2, E3, (E4 p0), E5, E6, (10, .one .top (.bool r1))], [], H⟩ (st_call (d := (some 10)) (fz := false) (pure := true) (own := false) (S17 p0) (ok_types_Table_Takes H c2) (by generalize p0 = qp0; cases qp0 <;> kernel_rfl) (by generalize p0 = qp0; cases qp0 <;> kernel_rfl)) ?_
  refine o_run 1 ⟨[(E1 p0), E2, E3, (E4 p0), E5, E6, (10, .one .top (.bool r1)), (11, .one .top (.bool r1))], [], H⟩ (by kernel_rfl) (by generalize p0 = qp0; cases qp0 <;> kernel_rfl) ?_
  rcases if_inv hB9 with ⟨h3, hB9⟩ | ⟨h3, hB9⟩
  refine o_eq (congrArg (fun q => (⟨[(E1 p0), E2, E3, (E4 p0), E5, E6, (10, .one .top (.bool q)), (11, .one .top (.bool q))], [], H⟩ : St)) h3) ?_
  refine o_run 14 ⟨[(E1 p0), E2, E3, (6, .one .top (.bool true)), (E4 p0), E5, E6, (10, .one .top (.bool true)), (11, .one .top (.bool true)), (12, .tup []), (13, .tup []), (14, .tup []), (15, .tup []), (16, .one .top (.bool true)), (17, .one .top (.bool true)), (18, .tup []), (19, .tup []), (20, .tup []), (21, .tup []), (22, .tup []), (23, .tup []), (24, .one .top (.bool true))], [], H⟩ (by kernel_rfl) (by generalize p0 = qp0; cases qp0 <;> kernel_rfl) ?_
  cases hB9
  exact o_end (by kernel_rfl) (by kernel_rfl)
  refine o_eq (congrArg (fun q => (⟨[(E1 p0), E2, E3, (E4 p0), E5, E6, (10, .one .top (.bool q)), (11, .one .top (.bool q))], [], H⟩ : St)) h3) ?_
  refine o_run 3 (S18 p0) (by kernel_rfl) (by generalize p0 = qp0; cases qp0 <;> kernel_rfl) ?_
  obtain ⟨r4, c5, hB9⟩ := bind1_inv hB9
  refine o_one ⟨[(E1 p0), E2, E3, (E4 p0), E5, E6, E7, E8, (E9 p0), E10, E11, (15, .one .top (.bool r4))], [], H⟩ (st_call (d := (some 15)) (fz := false) (pure := true) (own := false) (S18 p0) (ok_types_Table_Takes H c5) (by generalize p0 = qp0; cases qp0 <;> kernel_rfl) (by generalize p0 = qp0; cases qp0 <;> kernel_rfl)) ?_
  refine o_run 2 ⟨[(E1 p0), E2, E3, (E4 p0), E5, E6, E7, E8, (E9 p0), E10, E11, (15, .one .top (.bool r4)), (16, .one .top (.bool r4)), (17, .one .top (.bool r4))], [], H⟩ (by kernel_rfl) (by generalize p0 = qp0; cases qp0 <;> kernel_rfl) ?_
  rcases if_inv hB9 with ⟨h6, hB9⟩ | ⟨h6, hB9⟩
  refine o_eq (congrArg (fun q => (⟨[(E1 p0), E2, E3, (E4 p0), E5, E6, E7, E8, (E9 p0), E10, E11, (15, .one .top (.bool q)), (16, .one .top (.bool q)), (17, .one .top (.bool q))], [], H⟩ : St)) h6) ?_
  refine o_run 8 ⟨[(E1 p0), E2, E3, (6, .one .top (.bool true)), (E4 p0), E5, E6, E7, E8, (E9 p0), E10, E11, (15, .one .top (.bool true)), (16, .one .top (.bool true)), (17, .one .top (.bool true)), (18, .tup []), (19, .tup []), (20, .tup []), (21, .tup []), (22, .tup []), (23, .tup []), (24, .one .top (.bool true))], [], H⟩ (by kernel_rfl) (by generalize p0 = qp0; cases qp0 <;> kernel_rfl) ?_
  cases hB9
  exact o_end (by kernel_rfl) (by kernel_rfl)
  refine o_eq (congrArg (fun q => (⟨[(E1 p0), E2, E3, (E4 p0), E5, E6, E7, E8, (E9 p0), E10, E11, (15, .one .top (.bool q)), (16, .one .top (.bool q)), (17, .one .top (.bool q))], [], H⟩ : St)) h6) ?_
  refine o_run 3 ⟨[(E1 p0), E2, E3, (E4 p0), E5, E6, E7, E8, (E9 p0), E10, E11, E12, E13, E14, E15, (19, .one .top (.bool (p1 == 4))), (20, .one .top (.bool (p1 == 4)))], [], H⟩ (by kernel_rfl) (by generalize p0 = qp0; cases qp0 <;> kernel_rfl) ?_
  rcases if_inv hB9 with ⟨h7, hB9⟩ | ⟨h7, hB9⟩
  refine o_eq (congrArg (fun q => (⟨[(E1 p0), E2, E3, (E4 p0), E5, E6, E7, E8, (E9 p0), E10, E11, E12, E13, E14, E15, (19, .one .top (.bool q)), (20, .one .top (.bool q))], [], H⟩ : St)) h7) ?_
  refine o_run 5 ⟨[(E1 p0), E2, E3, (6, .one .top (.bool (p2 == 4))), (E4 p0), E5, E6, E7, E8, (E9 p0), E10, E11, E12, E13, E14, E15, (19, .one .top (.bool true)), (20, .one .top (.bool true)), (21, .one .top (.int .i64 p2)), (22, .one .top (.bool (p2 == 4))), (23, .one .top (.bool (p2 == 4))), (24, .one .top (.bool (p2 == 4)))], [], H⟩ (by kernel_rfl) (by generalize p0 = qp0; cases qp0 <;> kernel_rfl) ?_
  cases hB9
  exact o_end (by kernel_rfl) (by kernel_rfl)
  refine o_eq (congrArg (fun q => (⟨[(E1 p0), E2, E3, (E4 p0), E5, E6, E7, E8, (E9 p0), E10, E11, E12, E13, E14, E15, (19, .one .top (.bool q)), (20, .one .top (.bool q))], [], H⟩ : St)) h7) ?_
  refine o_run 5 ⟨[(E1 p0), E2, E3, (6, .one .top (.bool false)), (E4 p0), E5, E6, E7, E8, (E9 p0), E10, E11, E12, E13, E14, E15, (19, .one .top (.bool false)), (20, .one .top (.bool false)), (21, .tup []), (22, .tup []), (23, .one .top (.bool false)), (24, .one .top (.bool false))], [], H⟩ (by kernel_rfl) (by generalize p0 = qp0; cases qp0 <;> kernel_rfl) ?_
  cases hB9
  exact o_end (by kernel_rfl) (by kernel_rfl)
  refine w_ret ?_
  obtain e0 := some1_inv hF
  subst e0
  exact fin_pure (v := .one .top (.bool w8)) (by kernel_rfl) (by kernel_rfl) rfl (by kernel_rfl)
noncomputable def ref09_Equals  (p0 : (List T_ref09_Type)) (p1 : Int) (p2 : Int) : Option (Bool) :=
  bind1 (ref09_Takes p0 p1 p2) fun r1 =>
  bind1 (if r1 = true then (some true) else (bind1 (ref09_Takes p0 p2 p1) fun r4 =>
  if r4 = true then (some true) else (if (p1 == 4) = true then (some (p2 == 4)) else (some false)))) fun w8 =>
  some w8
theorem ok_ref09_Equals (H : Heap) {p0 : (List T_ref09_Type)} {p1 : Int} {p2 : Int} {ra : Bool} (hF : ref09_Equals p0 p1 p2 = some ra) : evS X 40 [.one (.own 0) (.sl 6 (List.map e_ref09_Type p0)), .one .top (.int .i64 p1), .one .top (.int .i64 p2)] H = some (.one .top (.bool ra), H) := by
  let E1 : Nat × TV := (0, .one (.own 0) (.sl 6 (List.map e_ref09_Type p0)))
  let E2 : Nat × TV := (1, .one .top (.int .i64 p1))
  let E3 : Nat × TV := (2, .one .top (.int .i64 p2))
  let E4 : Nat × TV := (7, .one (.own 0) (.sl 6 (List.map e_ref09_Type p0)))
  let E5 : Nat × TV := (8, .one .top (.int .i64 p1))
  let E6 : Nat × TV := (9, .one .top (.int .i64 p2))
  let E7 : Nat × TV := (10, .one .top (.bool false))
  let E8 : Nat × TV := (11, .one .top (.bool false))
  let E9 : Nat × TV := (12, .one (.own 0) (.sl 6 (List.map e_ref09_Type p0)))
  let E10 : Nat × TV := (13, .one .top (.int .i64 p2))
  let E11 : Nat × TV := (14, .one .top (.int .i64 p1))
  let E12 : Nat × TV := (15, .one .top (.bool false))
  let E13 : Nat × TV := (16, .one .top (.bool false))
  let E14 : Nat × TV := (17, .one .top (.bool false))
  let E15 : Nat × TV := (18, .one .top (.int .i64 p1))
  let S16 : St := ⟨[E1, E2, E3, E4, E5, E6], [], H⟩
  let S17 : St := ⟨[E1, E2, E3, E4, E5, E6, E7, E8, E9, E10, E11], [], H⟩
  refine w_fun Try.func40 rfl (by kernel_rfl) true (by kernel_rfl) (s0 := (⟨[E1, E2, E3], [], H⟩ : St)) (by kernel_rfl) ?_
  unfold ref09_Equals at hF
  refine w_seq ?_
  refine w_reg ⟨[E1, E2, E3], [], H⟩ (by kernel_rfl) ?_
  refine w_seq ?_
  obtain ⟨r1, c2, hF⟩ := bind1_inv hF
  obtain ⟨w8, hB9, hF⟩ := bind1_inv hF
  refine w_regO ⟨[(6, .one .top (.bool w8))], [], H⟩ ?_ ?_
  refine o_run 3 S16 (by kernel_rfl) (by kernel_rfl) ?_
  refine o_one ⟨[E1, E2, E3, E4, E5, E6, (10, .one .top (.bool r1))], [], H⟩ (st_call (d := (some 10)) (fz := false) (pure := true) (own := false) S16 (ok_ref09_Takes H c2) (by kernel_rfl) (by kernel_rfl)) ?_
  refine o_run 1 ⟨[E1, E2, E3, E4, E5, E6, (10, .one .top (.bool r1)), (11, .one .top (.bool r1))], [], H⟩ (by kernel_rfl) (by kernel_rfl) ?_
  rcases if_inv hB9 with ⟨h3, hB9⟩ | ⟨h3, hB9⟩
  refine o_eq (congrArg (fun q => (⟨[E1, E2, E3, E4, E5, E6, (10, .one .top (.bool q)), (11, .one .top (.bool q))], [], H⟩ : St)) h3) ?_
  refine o_run 14 ⟨[E1, E2, E3, (6, .one .top (.bool true)), E4, E5, E6, (10, .one .top (.bool true)), (11, .one .top (.bool true)), (12, .tup []), (13, .tup []), (14, .tup []), (15, .tup []), (16, .one .top (.bool true)), (17, .one .top (.bool true)), (18, .tup []), (19, .tup []), (20, .tup []), (21, .tup []), (22, .tup []), (23, .tup []), (24, .one .top (.bool true))], [], H⟩ (by kernel_rfl) (by kernel_rfl) ?_
  cases hB9
  exact o_end (by kernel_rfl) (by kernel_rfl)
  refine o_eq (congrArg (fun q => (⟨[E1, E2, E3, E4, E5, E6, (10, .one .top (.bool q)), (11, .one .top (.bool q))], [], H⟩ : St)) h3) ?_
  refine o_run 3 S17 (by kernel_rfl) (by kernel_rfl) ?_
  obtain ⟨r4, c5, hB9⟩ := bind1_inv hB9
  refine o_one ⟨[E1, E2, E3, E4, E5, E6, E7, E8, E9, E10, E11, (15, .one .top (.bool r4))], [], H⟩ (st_call (d := (some 15)) (fz := false) (pure := true) (own := false) S17 (ok_ref09_Takes H c5) (by kernel_rfl) (by kernel_rfl)) ?_
  refine o_run 2 ⟨[E1, E2, E3, E4, E5, E6, E7, E8, E9, E10, E11, (15, .one .top (.bool r4)), (16, .one .top (.bool r4)), (17, .one .top (.bool r4))], [], H⟩ (by kernel_rfl) (by kernel_rfl) ?_
  rcases if_inv hB9 with ⟨h6, hB9⟩ | ⟨h6, hB9⟩
  refine o_eq (congrArg (fun q => (⟨[E1, E2, E3, E4, E5, E6, E7, E8, E9, E10, E11, (15, .one .top (.bool q)), (16, .one .top (.bool q)), (17, .one .top (.bool q))], [], H⟩ : St)) h6) ?_
  refine o_run 8 ⟨[E1, E2, E3, (6, .one .top (.bool true)), E4, E5, E6, E7, E8, E9, E10, E11, (15, .one .top (.bool true)), (16, .one .top (.bool true)), (17, .one .top (.bool true)), (18, .tup []), (19, .tup []), (20, .tup []), (21, .tup []), (22, .tup []), (23, .tup []), (24, .one .top (.bool true))], [], H⟩ (by kernel_rfl) (by kernel_rfl) ?_
  cases hB9
  exact o_end (by kernel_rfl) (by kernel_rfl)
  refine o_eq (congrArg (fun q => (⟨[E1, E2, E3, E4, E5, E6, E7, E8, E9, E10, E11, (15, .one .top (.bool q)), (16, .one .top (.bool q)), (17, .one .top (.bool q))], [], H⟩ : St)) h6) ?_
  refine o_run 3 ⟨[E1, E2, E3, E4, E5, E6, E7, E8, E9, E10, E11, E12, E13, E14, E15, (19, .one .top (.bool (p1 == 4))), (20, .one .top (.bool (p1 == 4)))], [], H⟩ (by kernel_rfl) (by kernel_rfl) ?_
  rcases if_inv hB9 with ⟨h7, hB9⟩ | ⟨h7, hB9⟩
  refine o_eq (congrArg (fun q => (⟨[E1, E2, E3, E4, E5, E6, E7, E8, E9, E10, E11, E12, E13, E14, E15, (19, .one .top (.bool q)), (20, .one .top (.bool q))], [], H⟩ : St)) h7) ?_
  refine o_run 5 ⟨[E1, E2, E3, (6, .one .top (.bool (p2 == 4))), E4, E5, E6, E7, E8, E9, E10, E11, E12, E13, E14, E15, (19, .one .top (.bool true)), (20, .one .top (.bool true)), (21, .one .top (.int .i64 p2)), (22, .one .top (.bool (p2 == 4))), (23, .one .top (.bool (p2 == 4))), (24, .one .top (.bool (p2 == 4)))], [], H⟩ (by kernel_rfl) (by kernel_rfl) ?_
  cases hB9
  exact o_end (by kernel_rfl) (by kernel_rfl)
  refine o_eq (congrArg (fun q => (⟨[E1, E2, E3, E4, E5, E6, E7, E8, E9, E10, E11, E12, E13, E14, E15, (19, .one .top (.bool q)), (20, .one .top (.bool q))], [], H⟩ : St)) h7) ?_
  refine o_run 5 ⟨[E1, E2, E3, (6, .one .top (.bool false)), E4, E5, E6, E7, E8, E9, E10, E11, E12, E13, E14, E15, (19, .one .top (.bool false)), (20, .one .top (.bool false)), (21, .tup []), (22, .tup []), (23, .one .top (.bool false)), (24, .one .top (.bool false))], [], H⟩ (by kernel_rfl) (by kernel_rfl) ?_
  cases hB9
  exact o_end (by kernel_rfl) (by kernel_rfl)
  refine w_ret ?_
  obtain e0 := some1_inv hF
  subst e0
  exact fin_pure (v := .one .top (.bool w8)) (by kernel_rfl) (by kernel_rfl) rfl (by kernel_rfl)
noncomputable def types_Table_Ordered (H : Heap) (p0 : Ptr) (p1 : Int) : Option (Bool) :=
  bind1 (types_Table_kind H p0 p1) fun r1 =>
  some ((r1 == 1) || (r1 == 3))
theorem ok_types_Table_Ordered (H : Heap) {p0 : Ptr} {p1 : Int} {ra : Bool} (hF : types_Table_Ordered H p0 p1 = some ra) : evS X 41 [.one .top (Ptr.av p0), .one .top (.int .i64 p1)] H = some (.one .top (.bool ra), H) := by
  let E1 : Ptr → Nat × TV := fun z0 => (0, .one .top (Ptr.av z0))
  let E2 : Nat × TV := (1, .one .top (.int .i64 p1))
  let E4 : Ptr → Nat × TV := fun z0 => (6, .one .top (Ptr.av z0))
  let E5 : Nat × TV := (7, .one .top (.int .i64 p1))
  let S7 : Ptr → St := fun z0 => ⟨[(E1 z0), E2], [], H⟩
  let S8 : Ptr → St := fun z0 => ⟨[(E1 z0), E2, (E4 z0), E5], [], H⟩
  refine w_fun Try.func41 rfl (by kernel_rfl) true (by kernel_rfl) (s0 := (S7 p0)) (by kernel_rfl) ?_
  unfold types_Table_Ordered at hF
  refine w_seq ?_
  refine w_reg (S7 p0) (by generalize p0 = qp0; cases qp0 <;> kernel_rfl) ?_
  refine w_seq ?_
  obtain ⟨r1, c2, hF⟩ := bind1_inv hF
  let E3 : Nat × TV := (5, .one .top (.int .i64 r1))
  let E6 : Nat × TV := (9, .one .top (.int .i64 r1))
  refine w_regO ⟨[E3], [], H⟩ ?_ ?_
  refine o_run 2 (S8 p0) (by kernel_rfl) (by generalize p0 = qp0; cases qp0 <;> kernel_rfl) ?_
  refine o_one ⟨[(E1 p0), E2, (E4 p0), E5, (8, .one .top (.int .i64 r1))], [], H⟩ (st_call (d := (some 8)) (fz := false) (pure := true) (own := false) (S8 p0) (ok_types_Table_kind H c2) (by generalize p0 = qp0; cases qp0 <;> kernel_rfl) (by generalize p0 = qp0; cases qp0 <;> kernel_rfl)) ?_
  refine o_run 1 ⟨[(E1 p0), E2, E3, (E4 p0), E5, (8, .one .top (.int .i64 r1))], [], H⟩ (by kernel_rfl) (by generalize p0 = qp0; cases qp0 <;> kernel_rfl) ?_
  exact o_end (by kernel_rfl) (by kernel_rfl)
  refine w_seq ?_
  refine w_regO ⟨[(4, .one .top (.bool ((r1 == 1) || (r1 == 3))))], [], H⟩ ?_ ?_
  refine o_run 3 ⟨[E3, E6, (10, .one .top (.bool (r1 == 1))), (11, .one .top (.bool (r1 == 1)))], [], H⟩ (by kernel_rfl) (by kernel_rfl) ?_
  rcases bool_cases (r1 == 1) with h3 | h3
  refine o_eq (congrArg (fun q => (⟨[E3, E6, (10, .one .top (.bool q)), (11, .one .top (.bool q))], [], H⟩ : St)) h3) ?_
  refine o_run 4 ⟨[(4, .one .top (.bool true)), E3, E6, (10, .one .top (.bool true)), (11, .one .top (.bool true)), (12, .tup []), (13, .tup []), (14, .one .top (.bool true))], [], H⟩ (by kernel_rfl) (by kernel_rfl) ?_
  refine o_eq2 (congrArg (fun q0 => (⟨[(4, .one .top (.bool q0))], [], H⟩ : St)) (show true = ((r1 == 1) || (r1 == 3)) by simp [h3])) ?_
  exact o_end (by kernel_rfl) (by kernel_rfl)
  refine o_eq (congrArg (fun q => (⟨[E3, E6, (10, .one .top (.bool q)), (11, .one .top (.bool q))], [], H⟩ : St)) h3) ?_
  refine o_run 4 ⟨[(4, .one .top (.bool (r1 == 3))), E3, E6, (10, .one .top (.bool false)), (11, .one .top (.bool false)), (12, .one .top (.int .i64 r1)), (13, .one .top (.bool (r1 == 3))), (14, .one .top (.bool (r1 == 3)))], [], H⟩ (by kernel_rfl) (by kernel_rfl) ?_
  refine o_eq2 (congrArg (fun q0 => (⟨[(4, .one .top (.bool q0))], [], H⟩ : St)) (show (r1 == 3) = ((r1 == 1) || (r1 == 3)) by simp [h3])) ?_
  exact o_end (by kernel_rfl) (by kernel_rfl)
  refine w_ret ?_
  obtain e0 := some1_inv hF
  subst e0
  exact fin_pure (v := .one .top (.bool ((r1 == 1) || (r1 == 3)))) (by kernel_rfl) (by kernel_rfl) rfl (by kernel_rfl)
noncomputable def ref09_Ordered  (p0 : (List T_ref09_Type)) (p1 : Int) : Option (Bool) :=
  bind1 (ref09_Get p0 p1) fun r1 =>
  some ((r1.Kind_ == 1) || (r1.Kind_ == 3))
theorem ok_ref09_Ordered (H : Heap) {p0 : (List T_ref09_Type)} {p1 : Int} {ra : Bool} (hF : ref09_Ordered p0 p1 = some ra) : evS X 42 [.one (.own 0) (.sl 6 (List.map e_ref09_Type p0)), .one .top (.int .i64 p1)] H = some (.one .top (.bool ra), H) := by
  let E1 : Nat × TV := (0, .one (.own 0) (.sl 6 (List.map e_ref09_Type p0)))
  let E2 : Nat × TV := (1, .one .top (.int .i64 p1))
  let E4 : Nat × TV := (6, .one (.own 0) (.sl 6 (List.map e_ref09_Type p0)))
  let E5 : Nat × TV := (7, .one .top (.int .i64 p1))
  let S7 : St := ⟨[E1, E2, E4, E5], [], H⟩
  refine w_fun Try.func42 rfl (by kernel_rfl) true (by kernel_rfl) (s0 := (⟨[E1, E2], [], H⟩ : St)) (by kernel_rfl) ?_
  unfold ref09_Ordered at hF
  refine w_seq ?_
  refine w_reg ⟨[E1, E2], [], H⟩ (by kernel_rfl) ?_
  refine w_seq ?_
  obtain ⟨r1, c2, hF⟩ := bind1_inv hF
  let E3 : Nat × TV := (5, .one .top (.int .i64 r1.Kind_))
  let E6 : Nat × TV := (10, .one .top (.int .i64 r1.Kind_))
  refine w_regO ⟨[E3], [], H⟩ ?_ ?_
  refine o_run 2 S7 (by kernel_rfl) (by kernel_rfl) ?_
  refine o_one ⟨[E1, E2, E4, E5, (8, .agg (m0_ref09_Type r1))], [], H⟩ (st_call (d := (some 8)) (fz := false) (pure := true) (own := false) S7 (ok_ref09_Get H c2) (by kernel_rfl) (by kernel_rfl)) ?_
  refine o_run 2 ⟨[E1, E2, E3, E4, E5, (8, .agg (m0_ref09_Type r1)), (9, .one .top (.int .i64 r1.Kind_))], [], H⟩ (by kernel_rfl) (by kernel_rfl) ?_
  exact o_end (by kernel_rfl) (by kernel_rfl)
  refine w_seq ?_
  refine w_regO ⟨[(4, .one .top (.bool ((r1.Kind_ == 1) || (r1.Kind_ == 3))))], [], H⟩ ?_ ?_
  refine o_run 3 ⟨[E3, E6, (11, .one .top (.bool (r1.Kind_ == 1))), (12, .one .top (.bool (r1.Kind_ == 1)))], [], H⟩ (by kernel_rfl) (by kernel_rfl) ?_
  rcases bool_cases (r1.Kind_ == 1) with h3 | h3
  refine o_eq (congrArg (fun q => (⟨[E3, E6, (11, .one .top (.bool q)), (12, .one .top (.bool q))], [], H⟩ : St)) h3) ?_
  refine o_run 4 ⟨[(4, .one .top (.bool true)), E3, E6, (11, .one .top (.bool true)), (12, .one .top (.bool true)), (13, .tup []), (14, .tup []), (15, .one .top (.bool true))], [], H⟩ (by kernel_rfl) (by kernel_rfl) ?_
  refine o_eq2 (congrArg (fun q0 => (⟨[(4, .one .top (.bool q0))], [], H⟩ : St)) (show true = ((r1.Kind_ == 1) || (r1.Kind_ == 3)) by simp [h3])) ?_
  exact o_end (by kernel_rfl) (by kernel_rfl)
  refine o_eq (congrArg (fun q => (⟨[E3, E6, (11, .one .top (.bool q)), (12, .one .top (.bool q))], [], H⟩ : St)) h3) ?_
  refine o_run 4 ⟨[(4, .one .top (.bool (r1.Kind_ == 3))), E3, E6, (11, .one .top (.bool false)), (12, .one .top (.bool false)), (13, .one .top (.int .i64 r1.Kind_)), (14, .one .top (.bool (r1.Kind_ == 3))), (15, .one .top (.bool (r1.Kind_ == 3)))], [], H⟩ (by kernel_rfl) (by kernel_rfl) ?_
  refine o_eq2 (congrArg (fun q0 => (⟨[(4, .one .top (.bool q0))], [], H⟩ : St)) (show (r1.Kind_ == 3) = ((r1.Kind_ == 1) || (r1.Kind_ == 3)) by simp [h3])) ?_
  exact o_end (by kernel_rfl) (by kernel_rfl)
  refine w_ret ?_
  obtain e0 := some1_inv hF
  subst e0
  exact fin_pure (v := .one .top (.bool ((r1.Kind_ == 1) || (r1.Kind_ == 3)))) (by kernel_rfl) (by kernel_rfl) rfl (by kernel_rfl)
noncomputable def law09_TypesTells (H : Heap) (p0 : (List T_law09_Op)) (p1 : T_law09_Op) : Option (Heap × Bool) :=
  bind2 (law09_awake H) fun H3 r1 =>
  if (!r1) = true then (some (H3, false))
  else (bind4 (law09_played H3 p0) fun H9 r5 r6 r7 =>
  if (!r7) = true then (some (H9, false))
  else (bind2 (types_Table_Find H9 r5 p1.A_ p1.Name_) fun r11 r12 =>
  bind2 (ref09_Find r6 p1.A_ p1.Name_) fun r14 r15 =>
  bind1 (if (r12 != r15) = true then (some true) else (if (!strEq r11.Name_ r14.Name_) = true then (some true) else (if (r11.Type_ != r14.Type_) = true then (some true) else (if (r11.Offset_ != r14.Offset_) = true then (some true) else (bind1 (types_Table_Get H9 r5 p1.A_) fun r21 =>
  bind1 (ref09_Get r6 p1.A_) fun r23 =>
  bind1 (law09_is r21 r23) fun r25 =>
  some (!r25)))))) fun w27 =>
  if w27 = true then (some (H9, false))
  else (bind1 (types_Table_Simple H9 r5 p1.A_) fun r30 =>
  bind1 (ref09_Simple r6 p1.A_) fun r32 =>
  bind1 (if (r30 == r32) = true then (bind1 (types_Table_Takes H9 r5 p1.A_ p1.B_) fun r35 =>
  bind1 (ref09_Takes r6 p1.A_ p1.B_) fun r37 =>
  if (r35 == r37) = true then (bind1 (types_Table_Equals H9 r5 p1.A_ p1.B_) fun r40 =>
  bind1 (ref09_Equals r6 p1.A_ p1.B_) fun r42 =>
  if (r40 == r42) = true then (bind1 (types_Table_Ordered H9 r5 p1.A_) fun r45 =>
  bind1 (ref09_Ordered r6 p1.A_) fun r47 =>
  some (r45 == r47)) else (some false)) else (some false)) else (some false)) fun w49 =>
  some (H9, w49))))
theorem ok_law09_TypesTells (H : Heap) {p0 : (List T_law09_Op)} {p1 : T_law09_Op} {ra : Bool} {Hr : Heap} (hF : law09_TypesTells H p0 p1 = some (Hr, ra)) : evS X 9 [.one .ro (.sl 4 (List.map e_law09_Op p0)), .agg (m0_law09_Op p1)] H = some (.one .top (.bool ra), Hr) := by
  let E1 : Nat × TV := (0, .one .ro (.sl 4 (List.map e_law09_Op p0)))
  let E2 : Nat × TV := (3, .one .top (.loc 3 0))
  let B3 : Nat × List MC := (3, (m0_law09_Op p1))
  let E4 : Nat × TV := (4, .one .top (.bool false))
  let E7 : Nat × TV := (15, .one .ro (.sl 4 (List.map e_law09_Op p0)))
  let E9 : Nat × TV := (8, .one .top (.loc 8 0))
  let E13 : Nat × TV := (24, .one .top (.loc 3 1))
  let E14 : Nat × TV := (25, .one .top (.int .i64 p1.A_))
  let E15 : Nat × TV := (26, .one .top (.loc 3 3))
  let E16 : Nat × TV := (27, .one .top (.str p1.Name_))
  let E18 : Nat × TV := (10, .one .top (.loc 10 0))
  let E22 : Nat × TV := (33, .one .top (.loc 3 1))
  let E23 : Nat × TV := (34, .one .top (.int .i64 p1.A_))
  let E24 : Nat × TV := (35, .one .top (.loc 3 3))
  let E25 : Nat × TV := (36, .one .top (.str p1.Name_))
  let E30 : Nat × TV := (42, .one .top (.bool true))
  let E31 : Nat × TV := (43, .one .top (.bool true))
  let E32 : Nat × TV := (44, .tup [])
  let E33 : Nat × TV := (45, .tup [])
  let E34 : Nat × TV := (46, .tup [])
  let E35 : Nat × TV := (47, .tup [])
  let E36 : Nat × TV := (48, .tup [])
  let E37 : Nat × TV := (49, .one .top (.bool true))
  let E38 : Nat × TV := (50, .one .top (.bool true))
  let E39 : Nat × TV := (51, .tup [])
  let E40 : Nat × TV := (52, .tup [])
  let E41 : Nat × TV := (53, .tup [])
  let E42 : Nat × TV := (54, .tup [])
  let E43 : Nat × TV := (55, .tup [])
  let E44 : Nat × TV := (56, .one .top (.bool true))
  let E45 : Nat × TV := (57, .one .top (.bool true))
  let E46 : Nat × TV := (58, .tup [])
  let E47 : Nat × TV := (59, .tup [])
  let E48 : Nat × TV := (60, .tup [])
  let E49 : Nat × TV := (61, .tup [])
  let E50 : Nat × TV := (62, .tup [])
  let E51 : Nat × TV := (63, .one .top (.bool true))
  let E52 : Nat × TV := (64, .one .top (.bool true))
  let E53 : Nat × TV := (65, .tup [])
  let E54 : Nat × TV := (66, .tup [])
  let E55 : Nat × TV := (67, .tup [])
  let E56 : Nat × TV := (69, .tup [])
  let E57 : Nat × TV := (70, .tup [])
  let E58 : Nat × TV := (71, .tup [])
  let E59 : Nat × TV := (68, .tup [])
  let E60 : Nat × TV := (72, .tup [])
  let E61 : Nat × TV := (73, .tup [])
  let E62 : Nat × TV := (74, .tup [])
  let E63 : Nat × TV := (75, .one .top (.bool true))
  let E64 : Nat × TV := (42, .one .top (.bool false))
  let E65 : Nat × TV := (43, .one .top (.bool false))
  let E66 : Nat × TV := (44, .one .top (.loc 8 0))
  let E68 : Nat × TV := (46, .one .top (.loc 10 0))
  let E72 : Nat × TV := (48, .one .top (.bool true))
  let E73 : Nat × TV := (48, .one .top (.bool false))
  let E74 : Nat × TV := (49, .one .top (.bool false))
  let E75 : Nat × TV := (50, .one .top (.bool false))
  let E76 : Nat × TV := (51, .one .top (.loc 8 1))
  let E78 : Nat × TV := (53, .one .top (.loc 10 1))
  let E82 : Nat × TV := (55, .one .top (.bool true))
  let E83 : Nat × TV := (55, .one .top (.bool false))
  let E84 : Nat × TV := (56, .one .top (.bool false))
  let E85 : Nat × TV := (57, .one .top (.bool false))
  let E86 : Nat × TV := (58, .one .top (.loc 8 2))
  let E88 : Nat × TV := (60, .one .top (.loc 10 2))
  let E92 : Nat × TV := (62, .one .top (.bool true))
  let E93 : Nat × TV := (62, .one .top (.bool false))
  let E94 : Nat × TV := (63, .one .top (.bool false))
  let E95 : Nat × TV := (64, .one .top (.bool false))
  let E97 : Nat × TV := (66, .one .top (.loc 3 1))
  let E98 : Nat × TV := (67, .one .top (.int .i64 p1.A_))
  let E100 : Nat × TV := (70, .one .top (.loc 3 1))
  let E101 : Nat × TV := (71, .one .top (.int .i64 p1.A_))
  let E107 : Nat × TV := (77, .one .top (.loc 3 1))
  let E108 : Nat × TV := (78, .one .top (.int .i64 p1.A_))
  let E110 : Nat × TV := (81, .one .top (.loc 3 1))
  let E111 : Nat × TV := (82, .one .top (.int .i64 p1.A_))
  let E115 : Nat × TV := (84, .one .top (.bool true))
  let E116 : Nat × TV := (85, .one .top (.bool true))
  let E118 : Nat × TV := (87, .one .top (.loc 3 1))
  let E119 : Nat × TV := (88, .one .top (.int .i64 p1.A_))
  let E120 : Nat × TV := (89, .one .top (.loc 3 2))
  let E121 : Nat × TV := (90, .one .top (.int .i64 p1.B_))
  let E123 : Nat × TV := (93, .one .top (.loc 3 1))
  let E124 : Nat × TV := (94, .one .top (.int .i64 p1.A_))
  let E125 : Nat × TV := (95, .one .top (.loc 3 2))
  let E126 : Nat × TV := (96, .one .top (.int .i64 p1.B_))
  let E131 : Nat × TV := (98, .one .top (.bool true))
  let E132 : Nat × TV := (99, .one .top (.bool true))
  let E133 : Nat × TV := (100, .one .top (.bool true))
  let E135 : Nat × TV := (102, .one .top (.loc 3 1))
  let E136 : Nat × TV := (103, .one .top (.int .i64 p1.A_))
  let E137 : Nat × TV := (104, .one .top (.loc 3 2))
  let E138 : Nat × TV := (105, .one .top (.int .i64 p1.B_))
  let E140 : Nat × TV := (108, .one .top (.loc 3 1))
  let E141 : Nat × TV := (109, .one .top (.int .i64 p1.A_))
  let E142 : Nat × TV := (110, .one .top (.loc 3 2))
  let E143 : Nat × TV := (111, .one .top (.int .i64 p1.B_))
  let E148 : Nat × TV := (113, .one .top (.bool true))
  let E149 : Nat × TV := (114, .one .top (.bool true))
  let E150 : Nat × TV := (115, .one .top (.bool true))
  let E152 : Nat × TV := (117, .one .top (.loc 3 1))
  let E153 : Nat × TV := (118, .one .top (.int .i64 p1.A_))
  let E155 : Nat × TV := (121, .one .top (.loc 3 1))
  let E156 : Nat × TV := (122, .one .top (.int .i64 p1.A_))
  let E161 : Nat × TV := (113, .one .top (.bool false))
  let E162 : Nat × TV := (114, .one .top (.bool false))
  let E163 : Nat × TV := (115, .one .top (.bool false))
  let E164 : Nat × TV := (116, .tup [])
  let E165 : Nat × TV := (117, .tup [])
  let E166 : Nat × TV := (118, .tup [])
  let E167 : Nat × TV := (120, .tup [])
  let E168 : Nat × TV := (121, .tup [])
  let E169 : Nat × TV := (122, .tup [])
  let E170 : Nat × TV := (119, .tup [])
  let E171 : Nat × TV := (123, .tup [])
  let E172 : Nat × TV := (124, .tup [])
  let E173 : Nat × TV := (125, .one .top (.bool false))
  let E174 : Nat × TV := (98, .one .top (.bool false))
  let E175 : Nat × TV := (99, .one .top (.bool false))
  let E176 : Nat × TV := (100, .one .top (.bool false))
  let E177 : Nat × TV := (101, .tup [])
  let E178 : Nat × TV := (102, .tup [])
  let E179 : Nat × TV := (103, .tup [])
  let E180 : Nat × TV := (104, .tup [])
  let E181 : Nat × TV := (105, .tup [])
  let E182 : Nat × TV := (107, .tup [])
  let E183 : Nat × TV := (108, .tup [])
  let E184 : Nat × TV := (109, .tup [])
  let E185 : Nat × TV := (110, .tup [])
  let E186 : Nat × TV := (111, .tup [])
  let E187 : Nat × TV := (106, .tup [])
  let E188 : Nat × TV := (112, .tup [])
  let E189 : Nat × TV := (113, .tup [])
  let E190 : Nat × TV := (84, .one .top (.bool false))
  let E191 : Nat × TV := (85, .one .top (.bool false))
  let E192 : Nat × TV := (86, .tup [])
  let E193 : Nat × TV := (87, .tup [])
  let E194 : Nat × TV := (88, .tup [])
  let E195 : Nat × TV := (89, .tup [])
  let E196 : Nat × TV := (90, .tup [])
  let E197 : Nat × TV := (92, .tup [])
  let E198 : Nat × TV := (93, .tup [])
  let E199 : Nat × TV := (94, .tup [])
  let E200 : Nat × TV := (95, .tup [])
  let E201 : Nat × TV := (96, .tup [])
  let E202 : Nat × TV := (91, .tup [])
  let E203 : Nat × TV := (97, .tup [])
  let E204 : Nat × TV := (98, .tup [])
  refine w_fun Try.func9 rfl (by kernel_rfl) false (by kernel_rfl) (s0 := (⟨[E1, (1, .agg (m0_law09_Op p1))], [], H⟩ : St)) (by kernel_rfl) ?_
  unfold law09_TypesTells at hF
  refine w_seq ?_
  refine w_reg ⟨[E1, E2], [B3], H⟩ (by kernel_rfl) ?_
  refine w_seq ?_
  refine w_seq ?_
  obtain ⟨H3, r1, c2, hF⟩ := bind2_inv hF
  let S205 : St := ⟨[E1, E2, E7], [B3], H3⟩
  refine w_regO ⟨[E1, E2, (13, .one .top (.bool (!r1)))], [B3], H3⟩ ?_ ?_
  refine o_one ⟨[E1, E2, (12, .one .top (.bool r1))], [B3], H3⟩ (st_call (d := (some 12)) (fz := false) (pure := false) (own := false) (⟨[E1, E2], [B3], H⟩ : St) (ok_law09_awake H c2) (by kernel_rfl) (by kernel_rfl)) ?_
  refine o_run 1 ⟨[E1, E2, (12, .one .top (.bool r1)), (13, .one .top (.bool (!r1)))], [B3], H3⟩ (by kernel_rfl) (by kernel_rfl) ?_
  exact o_end (by kernel_rfl) (by kernel_rfl)
  rcases if_inv hF with ⟨h4, hF⟩ | ⟨h4, hF⟩
  refine w_cT (m := .top) h4 (s1 := (⟨[], [], H3⟩ : St)) (by kernel_rfl) (by kernel_rfl) ?_
  refine w_seq ?_
  refine w_reg ⟨[E4], [], H3⟩ (by kernel_rfl) ?_
  refine w_ret ?_
  obtain ⟨e0, e1⟩ := some2_inv hF
  subst e0
  subst e1
  exact fin_imp (v := .one .top (.bool false)) (by kernel_rfl) (by kernel_rfl) (by kernel_rfl)
  refine w_cF (m := .top) h4 (s1 := (⟨[E1, E2], [B3], H3⟩ : St)) (by kernel_rfl) (by kernel_rfl) ?_
  refine w_skip ?_
  refine w_seq ?_
  obtain ⟨H9, r5, r6, r7, c8, hF⟩ := bind4_inv hF
  let E5 : Ptr → Nat × TV := fun z0 => (5, .one .top (Ptr.av z0))
  let E6 : Nat × TV := (6, .one (.own 0) (.sl 6 (List.map e_ref09_Type r6)))
  let E8 : Ptr → Nat × TV := fun z0 => (16, .tup [.one .top (Ptr.av z0), .one (.own 0) (.sl 6 (List.map e_ref09_Type r6)), .one .top (.bool r7)])
  let E12 : Ptr → Nat × TV := fun z0 => (23, .one .top (Ptr.av z0))
  let E21 : Nat × TV := (32, .one (.own 0) (.sl 6 (List.map e_ref09_Type r6)))
  let E96 : Ptr → Nat × TV := fun z0 => (65, .one .top (Ptr.av z0))
  let E99 : Nat × TV := (69, .one (.own 0) (.sl 6 (List.map e_ref09_Type r6)))
  let E106 : Ptr → Nat × TV := fun z0 => (76, .one .top (Ptr.av z0))
  let E109 : Nat × TV := (80, .one (.own 0) (.sl 6 (List.map e_ref09_Type r6)))
  let E117 : Ptr → Nat × TV := fun z0 => (86, .one .top (Ptr.av z0))
  let E122 : Nat × TV := (92, .one (.own 0) (.sl 6 (List.map e_ref09_Type r6)))
  let E134 : Ptr → Nat × TV := fun z0 => (101, .one .top (Ptr.av z0))
  let E139 : Nat × TV := (107, .one (.own 0) (.sl 6 (List.map e_ref09_Type r6)))
  let E151 : Ptr → Nat × TV := fun z0 => (116, .one .top (Ptr.av z0))
  let E154 : Nat × TV := (120, .one (.own 0) (.sl 6 (List.map e_ref09_Type r6)))
  let S206 : Ptr → St := fun z0 => ⟨[E2, (E5 z0), E6], [B3], H9⟩
  let S207 : Ptr → St := fun z0 => ⟨[E2, (E5 z0), E6, (E12 z0), E13, E14, E15, E16], [B3], H9⟩
  let S211 : Ptr → St := fun z0 => ⟨[E2, (E5 z0), E6, (E106 z0), E107, E108, E109, E110, E111], [B3], H9⟩
  refine w_regO ⟨[E2, (E5 r5), E6, (7, .one .top (.bool r7))], [B3], H9⟩ ?_ ?_
  refine o_run 1 S205 (by kernel_rfl) (by kernel_rfl) ?_
  refine o_one ⟨[E1, E2, E7, (E8 r5)], [B3], H9⟩ (st_call (d := (some 16)) (fz := false) (pure := false) (own := false) S205 (ok_law09_played H3 c8) (by generalize r5 = qp0; cases qp0 <;> kernel_rfl) (by generalize r5 = qp0; cases qp0 <;> kernel_rfl)) ?_
  refine o_run 7 ⟨[E1, E2, (E5 r5), E6, (7, .one .top (.bool r7)), (14, .tup [.one .top (Ptr.av r5), .one (.own 0) (.sl 6 (List.map e_ref09_Type r6)), .one .top (.bool r7)]), E7, (E8 r5), (17, .one .top (Ptr.av r5)), (18, .one (.own 0) (.sl 6 (List.map e_ref09_Type r6))), (19, .one .top (.bool r7))], [B3], H9⟩ (by kernel_rfl) (by generalize r5 = qp0; cases qp0 <;> kernel_rfl) ?_
  exact o_end (by kernel_rfl) (by kernel_rfl)
  refine w_seq ?_
  refine w_seq ?_
  refine w_reg ⟨[E2, (E5 r5), E6, (21, .one .top (.bool (!r7)))], [B3], H9⟩ (by generalize r5 = qp0; cases qp0 <;> kernel_rfl) ?_
  rcases if_inv hF with ⟨h10, hF⟩ | ⟨h10, hF⟩
  refine w_cT (m := .top) h10 (s1 := (⟨[], [], H9⟩ : St)) (by kernel_rfl) (by kernel_rfl) ?_
  refine w_seq ?_
  refine w_reg ⟨[E4], [], H9⟩ (by kernel_rfl) ?_
  refine w_ret ?_
  obtain ⟨e0, e1⟩ := some2_inv hF
  subst e0
  subst e1
  exact fin_imp (v := .one .top (.bool false)) (by kernel_rfl) (by kernel_rfl) (by kernel_rfl)
  refine w_cF (m := .top) h10 (s1 := (S206 r5)) (by kernel_rfl) (by kernel_rfl) ?_
  refine w_skip ?_
  refine w_seq ?_
  obtain ⟨r11, r12, c13, hF⟩ := bind2_inv hF
  let E10 : Nat × TV := (9, .one .top (.int .i64 r12))
  let B11 : Nat × List MC := (8, (m0_types_Field r11))
  let E17 : Nat × TV := (28, .tup [.agg (m0_types_Field r11), .one .top (.int .i64 r12)])
  let E27 : Nat × TV := (40, .one .top (.int .i64 r12))
  let E67 : Nat × TV := (45, .one .top (.str r11.Name_))
  let E77 : Nat × TV := (52, .one .top (.int .i64 r11.Type_))
  let E87 : Nat × TV := (59, .one .top (.int .i64 r11.Offset_))
  let S208 : Ptr → St := fun z0 => ⟨[E2, (E5 z0), E6, E9, E10, E21, E22, E23, E24, E25], [B3, B11], H9⟩
  refine w_regO ⟨[E2, (E5 r5), E6, E9, E10], [B3, B11], H9⟩ ?_ ?_
  refine o_run 5 (S207 r5) (by kernel_rfl) (by generalize r5 = qp0; cases qp0 <;> kernel_rfl) ?_
  refine o_one ⟨[E2, (E5 r5), E6, (E12 r5), E13, E14, E15, E16, E17], [B3], H9⟩ (st_call (d := (some 28)) (fz := false) (pure := true) (own := false) (S207 r5) (ok_types_Table_Find H9 c13) (by generalize r5 = qp0; cases qp0 <;> kernel_rfl) (by generalize r5 = qp0; cases qp0 <;> kernel_rfl)) ?_
  refine o_run 6 ⟨[E2, (E5 r5), E6, E9, E10, (22, .tup [.agg (m0_types_Field r11), .one .top (.int .i64 r12)]), (E12 r5), E13, E14, E15, E16, E17, (29, .agg (m0_types_Field r11)), (30, .one .top (.int .i64 r12))], [B3, B11], H9⟩ (by kernel_rfl) (by generalize r5 = qp0; cases qp0 <;> kernel_rfl) ?_
  exact o_end (by kernel_rfl) (by kernel_rfl)
  refine w_seq ?_
  obtain ⟨r14, r15, c16, hF⟩ := bind2_inv hF
  let E19 : Nat × TV := (11, .one .top (.int .i64 r15))
  let B20 : Nat × List MC := (10, (m0_ref09_Field r14))
  let E26 : Nat × TV := (37, .tup [.agg (m0_ref09_Field r14), .one .top (.int .i64 r15)])
  let E28 : Nat × TV := (41, .one .top (.int .i64 r15))
  let E29 : Nat × TV := (42, .one .top (.bool (r12 != r15)))
  let E69 : Nat × TV := (47, .one .top (.str r14.Name_))
  let E70 : Nat × TV := (48, .one .top (.bool (!strEq r11.Name_ r14.Name_)))
  let E71 : Nat × TV := (49, .one .top (.bool (!strEq r11.Name_ r14.Name_)))
  let E79 : Nat × TV := (54, .one .top (.int .i64 r14.Type_))
  let E80 : Nat × TV := (55, .one .top (.bool (r11.Type_ != r14.Type_)))
  let E81 : Nat × TV := (56, .one .top (.bool (r11.Type_ != r14.Type_)))
  let E89 : Nat × TV := (61, .one .top (.int .i64 r14.Offset_))
  let E90 : Nat × TV := (62, .one .top (.bool (r11.Offset_ != r14.Offset_)))
  let E91 : Nat × TV := (63, .one .top (.bool (r11.Offset_ != r14.Offset_)))
  let S209 : Ptr → St := fun z0 => ⟨[E2, (E5 z0), E6, E9, E10, E18, E19, E27, E28, E64, E65, E66, E67, E68, E69, E73, E74, E75, E76, E77, E78, E79, E83, E84, E85, E86, E87, E88, E89, E93, E94, E95, (E96 z0), E97, E98, E99, E100, E101], [B3, B11, B20], H9⟩
  refine w_regO ⟨[E2, (E5 r5), E6, E9, E10, E18, E19], [B3, B11, B20], H9⟩ ?_ ?_
  refine o_run 5 (S208 r5) (by kernel_rfl) (by generalize r5 = qp0; cases qp0 <;> kernel_rfl) ?_
  refine o_one ⟨[E2, (E5 r5), E6, E9, E10, E21, E22, E23, E24, E25, E26], [B3, B11], H9⟩ (st_call (d := (some 37)) (fz := false) (pure := true) (own := false) (S208 r5) (ok_ref09_Find H9 c16) (by generalize r5 = qp0; cases qp0 <;> kernel_rfl) (by generalize r5 = qp0; cases qp0 <;> kernel_rfl)) ?_
  refine o_run 6 ⟨[E2, (E5 r5), E6, E9, E10, E18, E19, (31, .tup [.agg (m0_ref09_Field r14), .one .top (.int .i64 r15)]), E21, E22, E23, E24, E25, E26, (38, .agg (m0_ref09_Field r14)), (39, .one .top (.int .i64 r15))], [B3, B11, B20], H9⟩ (by kernel_rfl) (by generalize r5 = qp0; cases qp0 <;> kernel_rfl) ?_
  exact o_end (by kernel_rfl) (by kernel_rfl)
  refine w_seq ?_
  refine w_seq ?_
  obtain ⟨w27, hB28, hF⟩ := bind1_inv hF
  refine w_regD (.take 0 (.take 1 (.take 2 (.take 3 (.take 4 (.take 5 (.take 6 (.take 7 (.take 8 (.take 9 (.take 10 (.take 11 (.take 12 (.take 13 (.take 14 (.take 15 (.take 16 (.take 17 (.take 18 (.take 19 (.take 20 (.take 21 (.take 22 (.take 23 (.take 24 (.take 25 (.take 26 (.take 27 (.take 29 (.take 30 (.take 31 (.last 28 (.last 32 (.last 33 (.take 34 (.take 35 .done)))))))))))))))))))))))))))))))))))) (by kernel_rfl) (⟨[E2, (E5 r5), E6, (75, .one .top (.bool w27))], [B3], H9⟩ : St) ?_ ?_
  refine d_take ⟨[E2, (E5 r5), E6, E9, E10, E18, E19, E27], [B3, B11, B20], H9⟩ (by generalize r5 = qp0; cases qp0 <;> kernel_rfl) ?_
  refine d_take ⟨[E2, (E5 r5), E6, E9, E10, E18, E19, E27, E28], [B3, B11, B20], H9⟩ (by generalize r5 = qp0; cases qp0 <;> kernel_rfl) ?_
  refine d_take ⟨[E2, (E5 r5), E6, E9, E10, E18, E19, E27, E28, E29], [B3, B11, B20], H9⟩ (by generalize r5 = qp0; cases qp0 <;> kernel_rfl) ?_
  refine d_take ⟨[E2, (E5 r5), E6, E9, E10, E18, E19, E27, E28, E29, (43, .one .top (.bool (r12 != r15)))], [B3, B11, B20], H9⟩ (by generalize r5 = qp0; cases qp0 <;> kernel_rfl) ?_
  rcases if_inv hB28 with ⟨h17, hB28⟩ | ⟨h17, hB28⟩
  refine d_eq (congrArg (fun q => (⟨[E2, (E5 r5), E6, E9, E10, E18, E19, E27, E28, (42, .one .top (.bool q)), (43, .one .top (.bool q))], [B3, B11, B20], H9⟩ : St)) h17) ?_
  refine d_take ⟨[E2, (E5 r5), E6, E9, E10, E18, E19, E27, E28, E30, E31, E32], [B3, B11, B20], H9⟩ (by generalize r5 = qp0; cases qp0 <;> kernel_rfl) ?_
  refine d_take ⟨[E2, (E5 r5), E6, E9, E10, E18, E19, E27, E28, E30, E31, E32, E33], [B3, B11, B20], H9⟩ (by generalize r5 = qp0; cases qp0 <;> kernel_rfl) ?_
  refine d_take ⟨[E2, (E5 r5), E6, E9, E10, E18, E19, E27, E28, E30, E31, E32, E33, E34], [B3, B11, B20], H9⟩ (by generalize r5 = qp0; cases qp0 <;> kernel_rfl) ?_
  refine d_take ⟨[E2, (E5 r5), E6, E9, E10, E18, E19, E27, E28, E30, E31, E32, E33, E34, E35], [B3, B11, B20], H9⟩ (by generalize r5 = qp0; cases qp0 <;> kernel_rfl) ?_
  refine d_take ⟨[E2, (E5 r5), E6, E9, E10, E18, E19, E27, E28, E30, E31, E32, E33, E34, E35, E36], [B3, B11, B20], H9⟩ (by generalize r5 = qp0; cases qp0 <;> kernel_rfl) ?_
  refine d_take ⟨[E2, (E5 r5), E6, E9, E10, E18, E19, E27, E28, E30, E31, E32, E33, E34, E35, E36, E37], [B3, B11, B20], H9⟩ (by generalize r5 = qp0; cases qp0 <;> kernel_rfl) ?_
  refine d_take ⟨[E2, (E5 r5), E6, E9, E10, E18, E19, E27, E28, E30, E31, E32, E33, E34, E35, E36, E37, E38], [B3, B11, B20], H9⟩ (by generalize r5 = qp0; cases qp0 <;> kernel_rfl) ?_
  refine d_take ⟨[E2, (E5 r5), E6, E9, E10, E18, E19, E27, E28, E30, E31, E32, E33, E34, E35, E36, E37, E38, E39], [B3, B11, B20], H9⟩ (by generalize r5 = qp0; cases qp0 <;> kernel_rfl) ?_
  refine d_take ⟨[E2, (E5 r5), E6, E9, E10, E18, E19, E27, E28, E30, E31, E32, E33, E34, E35, E36, E37, E38, E39, E40], [B3, B11, B20], H9⟩ (by generalize r5 = qp0; cases qp0 <;> kernel_rfl) ?_
  refine d_take ⟨[E2, (E5 r5), E6, E9, E10, E18, E19, E27, E28, E30, E31, E32, E33, E34, E35, E36, E37, E38, E39, E40, E41], [B3, B11, B20], H9⟩ (by generalize r5 = qp0; cases qp0 <;> kernel_rfl) ?_
  refine d_take ⟨[E2, (E5 r5), E6, E9, E10, E18, E19, E27, E28, E30, E31, E32, E33, E34, E35, E36, E37, E38, E39, E40, E41, E42], [B3, B11, B20], H9⟩ (by generalize r5 = qp0; cases qp0 <;> kernel_rfl) ?_
  refine d_take ⟨[E2, (E5 r5), E6, E9, E10, E18, E19, E27, E28, E30, E31, E32, E33, E34, E35, E36, E37, E38, E39, E40, E41, E42, E43], [B3, B11, B20], H9⟩ (by generalize r5 = qp0; cases qp0 <;> kernel_rfl) ?_
  refine d_take ⟨[E2, (E5 r5), E6, E9, E10, E18, E19, E27, E28, E30, E31, E32, E33, E34, E35, E36, E37, E38, E39, E40, E41, E42, E43, E44], [B3, B11, B20], H9⟩ (by generalize r5 = qp0; cases qp0 <;> kernel_rfl) ?_
  refine d_take ⟨[E2, (E5 r5), E6, E9, E10, E18, E19, E27, E28, E30, E31, E32, E33, E34, E35, E36, E37, E38, E39, E40, E41, E42, E43, E44, E45], [B3, B11, B20], H9⟩ (by generalize r5 = qp0; cases qp0 <;> kernel_rfl) ?_
  refine d_take ⟨[E2, (E5 r5), E6, E9, E10, E18, E19, E27, E28, E30, E31, E32, E33, E34, E35, E36, E37, E38, E39, E40, E41, E42, E43, E44, E45, E46], [B3, B11, B20], H9⟩ (by generalize r5 = qp0; cases qp0 <;> kernel_rfl) ?_
  refine d_take ⟨[E2, (E5 r5), E6, E9, E10, E18, E19, E27, E28, E30, E31, E32, E33, E34, E35, E36, E37, E38, E39, E40, E41, E42, E43, E44, E45, E46, E47], [B3, B11, B20], H9⟩ (by generalize r5 = qp0; cases qp0 <;> kernel_rfl) ?_
  refine d_take ⟨[E2, (E5 r5), E6, E9, E10, E18, E19, E27, E28, E30, E31, E32, E33, E34, E35, E36, E37, E38, E39, E40, E41, E42, E43, E44, E45, E46, E47, E48], [B3, B11, B20], H9⟩ (by generalize r5 = qp0; cases qp0 <;> kernel_rfl) ?_
  refine d_take ⟨[E2, (E5 r5), E6, E9, E10, E18, E19, E27, E28, E30, E31, E32, E33, E34, E35, E36, E37, E38, E39, E40, E41, E42, E43, E44, E45, E46, E47, E48, E49], [B3, B11, B20], H9⟩ (by generalize r5 = qp0; cases qp0 <;> kernel_rfl) ?_
  refine d_take ⟨[E2, (E5 r5), E6, E9, E10, E18, E19, E27, E28, E30, E31, E32, E33, E34, E35, E36, E37, E38, E39, E40, E41, E42, E43, E44, E45, E46, E47, E48, E49, E50], [B3, B11, B20], H9⟩ (by generalize r5 = qp0; cases qp0 <;> kernel_rfl) ?_
  refine d_take ⟨[E2, (E5 r5), E6, E9, E10, E18, E19, E27, E28, E30, E31, E32, E33, E34, E35, E36, E37, E38, E39, E40, E41, E42, E43, E44, E45, E46, E47, E48, E49, E50, E51], [B3, B11, B20], H9⟩ (by generalize r5 = qp0; cases qp0 <;> kernel_rfl) ?_
  refine d_take ⟨[E2, (E5 r5), E6, E9, E10, E18, E19, E27, E28, E30, E31, E32, E33, E34, E35, E36, E37, E38, E39, E40, E41, E42, E43, E44, E45, E46, E47, E48, E49, E50, E51, E52], [B3, B11, B20], H9⟩ (by generalize r5 = qp0; cases qp0 <;> kernel_rfl) ?_
  refine d_take ⟨[E2, (E5 r5), E6, E9, E10, E18, E19, E27, E28, E30, E31, E32, E33, E34, E35, E36, E37, E38, E39, E40, E41, E42, E43, E44, E45, E46, E47, E48, E49, E50, E51, E52, E53], [B3, B11, B20], H9⟩ (by generalize r5 = qp0; cases qp0 <;> kernel_rfl) ?_
  refine d_take ⟨[E2, (E5 r5), E6, E9, E10, E18, E19, E27, E28, E30, E31, E32, E33, E34, E35, E36, E37, E38, E39, E40, E41, E42, E43, E44, E45, E46, E47, E48, E49, E50, E51, E52, E53, E54], [B3, B11, B20], H9⟩ (by generalize r5 = qp0; cases qp0 <;> kernel_rfl) ?_
  refine d_take ⟨[E2, (E5 r5), E6, E9, E10, E18, E19, E27, E28, E30, E31, E32, E33, E34, E35, E36, E37, E38, E39, E40, E41, E42, E43, E44, E45, E46, E47, E48, E49, E50, E51, E52, E53, E54, E55], [B3, B11, B20], H9⟩ (by generalize r5 = qp0; cases qp0 <;> kernel_rfl) ?_
  refine d_take ⟨[E2, (E5 r5), E6, E9, E10, E18, E19, E27, E28, E30, E31, E32, E33, E34, E35, E36, E37, E38, E39, E40, E41, E42, E43, E44, E45, E46, E47, E48, E49, E50, E51, E52, E53, E54, E55, E56], [B3, B11, B20], H9⟩ (by generalize r5 = qp0; cases qp0 <;> kernel_rfl) ?_
  refine d_take ⟨[E2, (E5 r5), E6, E9, E10, E18, E19, E27, E28, E30, E31, E32, E33, E34, E35, E36, E37, E38, E39, E40, E41, E42, E43, E44, E45, E46, E47, E48, E49, E50, E51, E52, E53, E54, E55, E56, E57], [B3, B11, B20], H9⟩ (by generalize r5 = qp0; cases qp0 <;> kernel_rfl) ?_
  refine d_take ⟨[E2, (E5 r5), E6, E9, E10, E18, E19, E27, E28, E30, E31, E32, E33, E34, E35, E36, E37, E38, E39, E40, E41, E42, E43, E44, E45, E46, E47, E48, E49, E50, E51, E52, E53, E54, E55, E56, E57, E58], [B3, B11, B20], H9⟩ (by generalize r5 = qp0; cases qp0 <;> kernel_rfl) ?_
  refine d_last ⟨[E2, (E5 r5), E6, E9, E10, E18, E19, E27, E28, E30, E31, E32, E33, E34, E35, E36, E37, E38, E39, E40, E41, E42, E43, E44, E45, E46, E47, E48, E49, E50, E51, E52, E53, E54, E55, E59, E56, E57, E58], [B3, B11, B20], H9⟩ (by generalize r5 = qp0; cases qp0 <;> kernel_rfl) ?_
  refine d_last ⟨[E2, (E5 r5), E6, E9, E10, E18, E19, E27, E28, E30, E31, E32, E33, E34, E35, E36, E37, E38, E39, E40, E41, E42, E43, E44, E45, E46, E47, E48, E49, E50, E51, E52, E53, E54, E55, E59, E56, E57, E58, E60], [B3, B11, B20], H9⟩ (by generalize r5 = qp0; cases qp0 <;> kernel_rfl) ?_
  refine d_last ⟨[E2, (E5 r5), E6, E9, E10, E18, E19, E27, E28, E30, E31, E32, E33, E34, E35, E36, E37, E38, E39, E40, E41, E42, E43, E44, E45, E46, E47, E48, E49, E50, E51, E52, E53, E54, E55, E59, E56, E57, E58, E60, E61], [B3, B11, B20], H9⟩ (by generalize r5 = qp0; cases qp0 <;> kernel_rfl) ?_
  refine d_take ⟨[E2, (E5 r5), E6, E9, E10, E18, E19, E27, E28, E30, E31, E32, E33, E34, E35, E36, E37, E38, E39, E40, E41, E42, E43, E44, E45, E46, E47, E48, E49, E50, E51, E52, E53, E54, E55, E59, E56, E57, E58, E60, E61, E62], [B3, B11, B20], H9⟩ (by generalize r5 = qp0; cases qp0 <;> kernel_rfl) ?_
  refine d_take ⟨[E2, (E5 r5), E6, E9, E10, E18, E19, E27, E28, E30, E31, E32, E33, E34, E35, E36, E37, E38, E39, E40, E41, E42, E43, E44, E45, E46, E47, E48, E49, E50, E51, E52, E53, E54, E55, E59, E56, E57, E58, E60, E61, E62, E63], [B3, B11, B20], H9⟩ (by generalize r5 = qp0; cases qp0 <;> kernel_rfl) ?_
  cases hB28
  exact d_end (by kernel_rfl)
  refine d_eq (congrArg (fun q => (⟨[E2, (E5 r5), E6, E9, E10, E18, E19, E27, E28, (42, .one .top (.bool q)), (43, .one .top (.bool q))], [B3, B11, B20], H9⟩ : St)) h17) ?_
  refine d_take ⟨[E2, (E5 r5), E6, E9, E10, E18, E19, E27, E28, E64, E65, E66], [B3, B11, B20], H9⟩ (by generalize r5 = qp0; cases qp0 <;> kernel_rfl) ?_
  refine d_take ⟨[E2, (E5 r5), E6, E9, E10, E18, E19, E27, E28, E64, E65, E66, E67], [B3, B11, B20], H9⟩ (by generalize r5 = qp0; cases qp0 <;> kernel_rfl) ?_
  refine d_take ⟨[E2, (E5 r5), E6, E9, E10, E18, E19, E27, E28, E64, E65, E66, E67, E68], [B3, B11, B20], H9⟩ (by generalize r5 = qp0; cases qp0 <;> kernel_rfl) ?_
  refine d_take ⟨[E2, (E5 r5), E6, E9, E10, E18, E19, E27, E28, E64, E65, E66, E67, E68, E69], [B3, B11, B20], H9⟩ (by generalize r5 = qp0; cases qp0 <;> kernel_rfl) ?_
  refine d_take ⟨[E2, (E5 r5), E6, E9, E10, E18, E19, E27, E28, E64, E65, E66, E67, E68, E69, E70], [B3, B11, B20], H9⟩ (by generalize r5 = qp0; cases qp0 <;> kernel_rfl) ?_
  refine d_take ⟨[E2, (E5 r5), E6, E9, E10, E18, E19, E27, E28, E64, E65, E66, E67, E68, E69, E70, E71], [B3, B11, B20], H9⟩ (by generalize r5 = qp0; cases qp0 <;> kernel_rfl) ?_
  refine d_take ⟨[E2, (E5 r5), E6, E9, E10, E18, E19, E27, E28, E64, E65, E66, E67, E68, E69, E70, E71, (50, .one .top (.bool (!strEq r11.Name_ r14.Name_)))], [B3, B11, B20], H9⟩ (by generalize r5 = qp0; cases qp0 <;> kernel_rfl) ?_
  rcases if_inv hB28 with ⟨h18, hB28⟩ | ⟨h18, hB28⟩
  refine d_eq (congrArg (fun q => (⟨[E2, (E5 r5), E6, E9, E10, E18, E19, E27, E28, E64, E65, E66, E67, E68, E69, (48, .one .top (.bool q)), (49, .one .top (.bool q)), (50, .one .top (.bool q))], [B3, B11, B20], H9⟩ : St)) h18) ?_
  refine d_take ⟨[E2, (E5 r5), E6, E9, E10, E18, E19, E27, E28, E64, E65, E66, E67, E68, E69, E72, E37, E38, E39], [B3, B11, B20], H9⟩ (by generalize r5 = qp0; cases qp0 <;> kernel_rfl) ?_
  refine d_take ⟨[E2, (E5 r5), E6, E9, E10, E18, E19, E27, E28, E64, E65, E66, E67, E68, E69, E72, E37, E38, E39, E40], [B3, B11, B20], H9⟩ (by generalize r5 = qp0; cases qp0 <;> kernel_rfl) ?_
  refine d_take ⟨[E2, (E5 r5), E6, E9, E10, E18, E19, E27, E28, E64, E65, E66, E67, E68, E69, E72, E37, E38, E39, E40, E41], [B3, B11, B20], H9⟩ (by generalize r5 = qp0; cases qp0 <;> kernel_rfl) ?_
  refine d_take ⟨[E2, (E5 r5), E6, E9, E10, E18, E19, E27, E28, E64, E65, E66, E67, E68, E69, E72, E37, E38, E39, E40, E41, E42], [B3, B11, B20], H9⟩ (by generalize r5 = qp0; cases qp0 <;> kernel_rfl) ?_
  refine d_take ⟨[E2, (E5 r5), E6, E9, E10, E18, E19, E27, E28, E64, E65, E66, E67, E68, E69, E72, E37, E38, E39, E40, E41, E42, E43], [B3, B11, B20], H9⟩ (by generalize r5 = qp0; cases qp0 <;> kernel_rfl) ?_
  refine d_take ⟨[E2, (E5 r5), E6, E9, E10, E18, E19, E27, E28, E64, E65, E66, E67, E68, E69, E72, E37, E38, E39, E40, E41, E42, E43, E44], [B3, B11, B20], H9⟩ (by generalize r5 = qp0; cases qp0 <;> kernel_rfl) ?_
  refine d_take ⟨[E2, (E5 r5), E6, E9, E10, E18, E19, E27, E28, E64, E65, E66, E67, E68, E69, E72, E37, E38, E39, E40, E41, E42, E43, E44, E45], [B3, B11, B20], H9⟩ (by generalize r5 = qp0; cases qp0 <;> kernel_rfl) ?_
  refine d_take ⟨[E2, (E5 r5), E6, E9, E10, E18, E19, E27, E28, E64, E65, E66, E67, E68, E69, E72, E37, E38, E39, E40, E41, E42, E43, E44, E45, E46], [B3, B11, B20], H9⟩ (by generalize r5 = qp0; cases qp0 <;> kernel_rfl) ?_
  refine d_take ⟨[E2, (E5 r5), E6, E9, E10, E18, E19, E27, E28, E64, E65, E66, E67, E68, E69, E72, E37, E38, E39, E40, E41, E42, E43, E44, E45, E46, E47], [B3, B11, B20], H9⟩ (by generalize r5 = qp0; cases qp0 <;> kernel_rfl) ?_
  refine d_take ⟨[E2, (E5 r5), E6, E9, E10, E18, E19, E27, E28, E64, E65, E66, E67, E68, E69, E72, E37, E38, E39, E40, E41, E42, E43, E44, E45, E46, E47, E48], [B3, B11, B20], H9⟩ (by generalize r5 = qp0; cases qp0 <;> kernel_rfl) ?_
  refine d_take ⟨[E2, (E5 r5), E6, E9, E10, E18, E19, E27, E28, E64, E65, E66, E67, E68, E69, E72, E37, E38, E39, E40, E41, E42, E43, E44, E45, E46, E47, E48, E49], [B3, B11, B20], H9⟩ (by generalize r5 = qp0; cases qp0 <;> kernel_rfl) ?_
  refine d_take ⟨[E2, (E5 r5), E6, E9, E10, E18, E19, E27, E28, E64, E65, E66, E67, E68, E69, E72, E37, E38, E39, E40, E41, E42, E43, E44, E45, E46, E47, E48, E49, E50], [B3, B11, B20], H9⟩ (by generalize r5 = qp0; cases qp0 <;> kernel_rfl) ?_
  refine d_take ⟨[E2, (E5 r5), E6, E9, E10, E18, E19, E27, E28, E64, E65, E66, E67, E68, E69, E72, E37, E38, E39, E40, E41, E42, E43, E44, E45, E46, E47, E48, E49, E50, E51], [B3, B11, B20], H9⟩ (by generalize r5 = qp0; cases qp0 <;> kernel_rfl) ?_
  refine d_take ⟨[E2, (E5 r5), E6, E9, E10, E18, E19, E27, E28, E64, E65, E66, E67, E68, E69, E72, E37, E38, E39, E40, E41, E42, E43, E44, E45, E46, E47, E48, E49, E50, E51, E52], [B3, B11, B20], H9⟩ (by generalize r5 = qp0; cases qp0 <;> kernel_rfl) ?_
  refine d_take ⟨[E2, (E5 r5), E6, E9, E10, E18, E19, E27, E28, E64, E65, E66, E67, E68, E69, E72, E37, E38, E39, E40, E41, E42, E43, E44, E45, E46, E47, E48, E49, E50, E51, E52, E53], [B3, B11, B20], H9⟩ (by generalize r5 = qp0; cases qp0 <;> kernel_rfl) ?_
  refine d_take ⟨[E2, (E5 r5), E6, E9, E10, E18, E19, E27, E28, E64, E65, E66, E67, E68, E69, E72, E37, E38, E39, E40, E41, E42, E43, E44, E45, E46, E47, E48, E49, E50, E51, E52, E53, E54], [B3, B11, B20], H9⟩ (by generalize r5 = qp0; cases qp0 <;> kernel_rfl) ?_
  refine d_take ⟨[E2, (E5 r5), E6, E9, E10, E18, E19, E27, E28, E64, E65, E66, E67, E68, E69, E72, E37, E38, E39, E40, E41, E42, E43, E44, E45, E46, E47, E48, E49, E50, E51, E52, E53, E54, E55], [B3, B11, B20], H9⟩ (by generalize r5 = qp0; cases qp0 <;> kernel_rfl) ?_
  refine d_take ⟨[E2, (E5 r5), E6, E9, E10, E18, E19, E27, E28, E64, E65, E66, E67, E68, E69, E72, E37, E38, E39, E40, E41, E42, E43, E44, E45, E46, E47, E48, E49, E50, E51, E52, E53, E54, E55, E56], [B3, B11, B20], H9⟩ (by generalize r5 = qp0; cases qp0 <;> kernel_rfl) ?_
  refine d_take ⟨[E2, (E5 r5), E6, E9, E10, E18, E19, E27, E28, E64, E65, E66, E67, E68, E69, E72, E37, E38, E39, E40, E41, E42, E43, E44, E45, E46, E47, E48, E49, E50, E51, E52, E53, E54, E55, E56, E57], [B3, B11, B20], H9⟩ (by generalize r5 = qp0; cases qp0 <;> kernel_rfl) ?_
  refine d_take ⟨[E2, (E5 r5), E6, E9, E10, E18, E19, E27, E28, E64, E65, E66, E67, E68, E69, E72, E37, E38, E39, E40, E41, E42, E43, E44, E45, E46, E47, E48, E49, E50, E51, E52, E53, E54, E55, E56, E57, E58], [B3, B11, B20], H9⟩ (by generalize r5 = qp0; cases qp0 <;> kernel_rfl) ?_
  refine d_last ⟨[E2, (E5 r5), E6, E9, E10, E18, E19, E27, E28, E64, E65, E66, E67, E68, E69, E72, E37, E38, E39, E40, E41, E42, E43, E44, E45, E46, E47, E48, E49, E50, E51, E52, E53, E54, E55, E59, E56, E57, E58], [B3, B11, B20], H9⟩ (by generalize r5 = qp0; cases qp0 <;> kernel_rfl) ?_
  refine d_last ⟨[E2, (E5 r5), E6, E9, E10, E18, E19, E27, E28, E64, E65, E66, E67, E68, E69, E72, E37, E38, E39, E40, E41, E42, E43, E44, E45, E46, E47, E48, E49, E50, E51, E52, E53, E54, E55, E59, E56, E57, E58, E60], [B3, B11, B20], H9⟩ (by generalize r5 = qp0; cases qp0 <;> kernel_rfl) ?_
  refine d_last ⟨[E2, (E5 r5), E6, E9, E10, E18, E19, E27, E28, E64, E65, E66, E67, E68, E69, E72, E37, E38, E39, E40, E41, E42, E43, E44, E45, E46, E47, E48, E49, E50, E51, E52, E53, E54, E55, E59, E56, E57, E58, E60, E61], [B3, B11, B20], H9⟩ (by generalize r5 = qp0; cases qp0 <;> kernel_rfl) ?_
  refine d_take ⟨[E2, (E5 r5), E6, E9, E10, E18, E19, E27, E28, E64, E65, E66, E67, E68, E69, E72, E37, E38, E39, E40, E41, E42, E43, E44, E45, E46, E47, E48, E49, E50, E51, E52, E53, E54, E55, E59, E56, E57, E58, E60, E61, E62], [B3, B11, B20], H9⟩ (by generalize r5 = qp0; cases qp0 <;> kernel_rfl) ?_
  refine d_take ⟨[E2, (E5 r5), E6, E9, E10, E18, E19, E27, E28, E64, E65, E66, E67, E68, E69, E72, E37, E38, E39, E40, E41, E42, E43, E44, E45, E46, E47, E48, E49, E50, E51, E52, E53, E54, E55, E59, E56, E57, E58, E60, E61, E62, E63], [B3, B11, B20], H9⟩ (by generalize r5 = qp0; cases qp0 <;> kernel_rfl) ?_
  cases hB28
  exact d_end (by kernel_rfl)
  refine d_eq (congrArg (fun q => (⟨[E2, (E5 r5), E6, E9, E10, E18, E19, E27, E28, E64, E65, E66, E67, E68, E69, (48, .one .top (.bool q)), (49, .one .top (.bool q)), (50, .one .top (.bool q))], [B3, B11, B20], H9⟩ : St)) h18) ?_
  refine d_take ⟨[E2, (E5 r5), E6, E9, E10, E18, E19, E27, E28, E64, E65, E66, E67, E68, E69, E73, E74, E75, E76], [B3, B11, B20], H9⟩ (by generalize r5 = qp0; cases qp0 <;> kernel_rfl) ?_
  refine d_take ⟨[E2, (E5 r5), E6, E9, E10, E18, E19, E27, E28, E64, E65, E66, E67, E68, E69, E73, E74, E75, E76, E77], [B3, B11, B20], H9⟩ (by generalize r5 = qp0; cases qp0 <;> kernel_rfl) ?_
  refine d_take ⟨[E2, (E5 r5), E6, E9, E10, E18, E19, E27, E28, E64, E65, E66, E67, E68, E69, E73, E74, E75, E76, E77, E78], [B3, B11, B20], H9⟩ (by generalize r5 = qp0; cases qp0 <;> kernel_rfl) ?_
  refine d_take ⟨[E2, (E5 r5), E6, E9, E10, E18, E19, E27, E28, E64, E65, E66, E67, E68, E69, E73, E74, E75, E76, E77, E78, E79], [B3, B11, B20], H9⟩ (by generalize r5 = qp0; cases qp0 <;> kernel_rfl) ?_
  refine d_take ⟨[E2, (E5 r5), E6, E9, E10, E18, E19, E27, E28, E64, E65, E66, E67, E68, E69, E73, E74, E75, E76, E77, E78, E79, E80], [B3, B11, B20], H9⟩ (by generalize r5 = qp0; cases qp0 <;> kernel_rfl) ?_
  refine d_take ⟨[E2, (E5 r5), E6, E9, E10, E18, E19, E27, E28, E64, E65, E66, E67, E68, E69, E73, E74, E75, E76, E77, E78, E79, E80, E81], [B3, B11, B20], H9⟩ (by generalize r5 = qp0; cases qp0 <;> kernel_rfl) ?_
  refine d_take ⟨[E2, (E5 r5), E6, E9, E10, E18, E19, E27, E28, E64, E65, E66, E67, E68, E69, E73, E74, E75, E76, E77, E78, E79, E80, E81, (57, .one .top (.bool (r11.Type_ != r14.Type_)))], [B3, B11, B20], H9⟩ (by generalize r5 = qp0; cases qp0 <;> kernel_rfl) ?_
  rcases if_inv hB28 with ⟨h19, hB28⟩ | ⟨h19, hB28⟩
  refine d_eq (congrArg (fun q => (⟨[E2, (E5 r5), E6, E9, E10, E18, E19, E27, E28, E64, E65, E66, E67, E68, E69, E73, E74, E75, E76, E77, E78, E79, (55, .one .top (.bool q)), (56, .one .top (.bool q)), (57, .one .top (.bool q))], [B3, B11, B20], H9⟩ : St)) h19) ?_
  refine d_take ⟨[E2, (E5 r5), E6, E9, E10, E18, E19, E27, E28, E64, E65, E66, E67, E68, E69, E73, E74, E75, E76, E77, E78, E79, E82, E44, E45, E46], [B3, B11, B20], H9⟩ (by generalize r5 = qp0; cases qp0 <;> kernel_rfl) ?_
  refine d_take ⟨[E2, (E5 r5), E6, E9, E10, E18, E19, E27, E28, E64, E65, E66, E67, E68, E69, E73, E74, E75, E76, E77, E78, E79, E82, E44, E45, E46, E47], [B3, B11, B20], H9⟩ (by generalize r5 = qp0; cases qp0 <;> kernel_rfl) ?_
  refine d_take ⟨[E2, (E5 r5), E6, E9, E10, E18, E19, E27, E28, E64, E65, E66, E67, E68, E69, E73, E74, E75, E76, E77, E78, E79, E82, E44, E45, E46, E47, E48], [B3, B11, B20], H9⟩ (by generalize r5 = qp0; cases qp0 <;> kernel_rfl) ?_
  refine d_take ⟨[E2, (E5 r5), E6, E9, E10, E18, E19, E27, E28, E64, E65, E66, E67, E68, E69, E73, E74, E75, E76, E77, E78, E79, E82, E44, E45, E46, E47, E48, E49], [B3, B11, B20], H9⟩ (by generalize r5 = qp0; cases qp0 <;> kernel_rfl) ?_
  refine d_take ⟨[E2, (E5 r5), E6, E9, E10, E18, E19, E27, E28, E64, E65, E66, E67, E68, E69, E73, E74, E75, E76, E77, E78, E79, E82, E44, E45, E46, E47, E48, E49, E50], [B3, B11, B20], H9⟩ (by generalize r5 = qp0; cases qp0 <;> kernel_rfl) ?_
  refine d_take ⟨[E2, (E5 r5), E6, E9, E10, E18, E19, E27, E28, E64, E65, E66, E67, E68, E69, E73, E74, E75, E76, E77, E78, E79, E82, E44, E45, E46, E47, E48, E49, E50, E51], [B3, B11, B20], H9⟩ (by generalize r5 = qp0; cases qp0 <;> kernel_rfl) ?_
  refine d_take ⟨[E2, (E5 r5), E6, E9, E10, E18, E19, E27, E28, E64, E65, E66, E67, E68, E69, E73, E74, E75, E76, E77, E78, E79, E82, E44, E45, E46, E47, E48, E49, E50, E51, E52], [B3, B11, B20], H9⟩ (by generalize r5 = qp0; cases qp0 <;> kernel_rfl) ?_
  refine d_take ⟨[E2, (E5 r5), E6, E9, E10, E18, E19, E27, E28, E64, E65, E66, E67, E68, E69, E73, E74, E75, E76, E77, E78, E79, E82, E44, E45, E46, E47, E48, E49, E50, E51, E52, E53], [B3, B11, B20], H9⟩ (by generalize r5 = qp0; cases qp0 <;> kernel_rfl) ?_
  refine d_take ⟨[E2, (E5 r5), E6, E9, E10, E18, E19, E27, E28, E64, E65, E66, E67, E68, E69, E73, E74, E75, E76, E77, E78, E79, E82, E44, E45, E46, E47, E48, E49, E50, E51, E52, E53, E54], [B3, B11, B20], H9⟩ (by generalize r5 = qp0; cases qp0 <;> kernel_rfl) ?_
  refine d_take ⟨[E2, (E5 r5), E6, E9, E10, E18, E19, E27, E28, E64, E65, E66, E67, E68, E69, E73, E74, E75, E76, E77, E78, E79, E82, E44, E45, E46, E47, E48, E49, E50, E51, E52, E53, E54, E55], [B3, B11, B20], H9⟩ (by generalize r5 = qp0; cases qp0 <;> kernel_rfl) ?_
  refine d_take ⟨[E2, (E5 r5), E6, E9, E10, E18, E19, E27, E28, E64, E65, E66, E67, E68, E69, E73, E74, E75, E76, E77, E78, E79, E82, E44, E45, E46, E47, E48, E49, E50, E51, E52, E53, E54, E55, E56], [B3, B11, B20], H9⟩ (by generalize r5 = qp0; cases qp0 <;> kernel_rfl) ?_
  refine d_take ⟨[E2, (E5 r5), E6, E9, E10, E18, E19, E27, E28, E64, E65, E66, E67, E68, E69, E73, E74, E75, E76, E77, E78, E79, E82, E44, E45, E46, E47, E48, E49, E50, E51, E52, E53, E54, E55, E56, E57], [B3, B11, B20], H9⟩ (by generalize r5 = qp0; cases qp0 <;> kernel_rfl) ?_
  refine d_take ⟨[E2, (E5 r5), E6, E9, E10, E18, E19, E27, E28, E64, E65, E66, E67, E68, E69, E73, E74, E75, E76, E77, E78, E79, E82, E44, E45, E46, E47, E48, E49, E50, E51, E52, E53, E54, E55, E56, E57, E58], [B3, B11, B20], H9⟩ (by generalize r5 = qp0; cases qp0 <;> kernel_rfl) ?_
  refine d_last ⟨[E2, (E5 r5), E6, E9, E10, E18, E19, E27, E28, E64, E65, E66, E67, E68, E69, E73, E74, E75, E76, E77, E78, E79, E82, E44, E45, E46, E47, E48, E49, E50, E51, E52, E53, E54, E55, E59, E56, E57, E58], [B3, B11, B20], H9⟩ (by generalize r5 = qp0; cases qp0 <;> kernel_rfl) ?_
  refine d_last ⟨[E2, (E5 r5), E6, E9, E10, E18, E19, E27, E28, E64, E65, E66, E67, E68, E69, E73, E74, E75, E76, E77, E78, E79, E82, E44, E45, E46, E47, E48, E49, E50, E51, E52, E53, E54, E55, E59, E56, E57, E58, E60], [B3, B11, B20], H9⟩ (by generalize r5 = qp0; cases qp0 <;> kernel_rfl) ?_
  refine d_last ⟨[E2, (E5 r5), E6, E9, E10, E18, E19, E27, E28, E64, E65, E66, E67, E68, E69, E73, E74, E75, E76, E77, E78, E79, E82, E44, E45, E46, E47, E48, E49, E50, E51, E52, E53, E54, E55, E59, E56, E57, E58, E60, E61], [B3, B11, B20], H9⟩ (by generalize r5 = qp0; cases qp0 <;> kernel_rfl) ?_
  refine d_take ⟨[E2, (E5 r5), E6, E9, E10, E18, E19, E27, E28, E64, E65, E66, E67, E68, E69, E73, E74, E75, E76, E77, E78, E79, E82, E44, E45, E46, E47, E48, E49, E50, E51, E52, E53, E54, E55, E59, E56, E57, E58, E60, E61, E62], [B3, B11, B20], H9⟩ (by generalize r5 = qp0; cases qp0 <;> kernel_rfl) ?_
  refine d_take ⟨[E2, (E5 r5), E6, E9, E10, E18, E19, E27, E28, E64, E65, E66, E67, E68, E69, E73, E74, E75, E76, E77, E78, E79, E82, E44, E45, E46, E47, E48, E49, E50, E51, E52, E53, E54, E55, E59, E56, E57, E58, E60, E61, E62, E63], [B3, B11, B20], H9⟩ (by generalize r5 = qp0; cases qp0 <;> kernel_rfl) ?_
  cases hB28
  exact d_end (by kernel_rfl)
  refine d_eq (congrArg (fun q => (⟨[E2, (E5 r5), E6, E9, E10, E18, E19, E27, E28, E64, E65, E66, E67, E68, E69, E73, E74, E75, E76, E77, E78, E79, (55, .one .top (.bool q)), (56, .one .top (.bool q)), (57, .one .top (.bool q))], [B3, B11, B20], H9⟩ : St)) h19) ?_
  refine d_take ⟨[E2, (E5 r5), E6, E9, E10, E18, E19, E27, E28, E64, E65, E66, E67, E68, E69, E73, E74, E75, E76, E77, E78, E79, E83, E84, E85, E86], [B3, B11, B20], H9⟩ (by generalize r5 = qp0; cases qp0 <;> kernel_rfl) ?_
  refine d_take ⟨[E2, (E5 r5), E6, E9, E10, E18, E19, E27, E28, E64, E65, E66, E67, E68, E69, E73, E74, E75, E76, E77, E78, E79, E83, E84, E85, E86, E87], [B3, B11, B20], H9⟩ (by generalize r5 = qp0; cases qp0 <;> kernel_rfl) ?_
  refine d_take ⟨[E2, (E5 r5), E6, E9, E10, E18, E19, E27, E28, E64, E65, E66, E67, E68, E69, E73, E74, E75, E76, E77, E78, E79, E83, E84, E85, E86, E87, E88], [B3, B11, B20], H9⟩ (by generalize r5 = qp0; cases qp0 <;> kernel_rfl) ?_
  refine d_take ⟨[E2, (E5 r5), E6, E9, E10, E18, E19, E27, E28, E64, E65, E66, E67, E68, E69, E73, E74, E75, E76, E77, E78, E79, E83, E84, E85, E86, E87, E88, E89], [B3, B11, B20], H9⟩ (by generalize r5 = qp0; cases qp0 <;> kernel_rfl) ?_
  refine d_take ⟨[E2, (E5 r5), E6, E9, E10, E18, E19, E27, E28, E64, E65, E66, E67, E68, E69, E73, E74, E75, E76, E77, E78, E79, E83, E84, E85, E86, E87, E88, E89, E90], [B3, B11, B20], H9⟩ (by generalize r5 = qp0; cases qp0 <;> kernel_rfl) ?_
  refine d_take ⟨[E2, (E5 r5), E6, E9, E10, E18, E19, E27, E28, E64, E65, E66, E67, E68, E69, E73, E74, E75, E76, E77, E78, E79, E83, E84, E85, E86, E87, E88, E89, E90, E91], [B3, B11, B20], H9⟩ (by generalize r5 = qp0; cases qp0 <;> kernel_rfl) ?_
  refine d_take ⟨[E2, (E5 r5), E6, E9, E10, E18, E19, E27, E28, E64, E65, E66, E67, E68, E69, E73, E74, E75, E76, E77, E78, E79, E83, E84, E85, E86, E87, E88, E89, E90, E91, (64, .one .top (.bool (r11.Offset_ != r14.Offset_)))], [B3, B11, B20], H9⟩ (by generalize r5 = qp0; cases qp0 <;> kernel_rfl) ?_
  rcases if_inv hB28 with ⟨h20, hB28⟩ | ⟨h20, hB28⟩
  refine d_eq (congrArg (fun q => (⟨[E2, (E5 r5), E6, E9, E10, E18, E19, E27, E28, E64, E65, E66, E67, E68, E69, E73, E74, E75, E76, E77, E78, E79, E83, E84, E85, E86, E87, E88, E89, (62, .one .top (.bool q)), (63, .one .top (.bool q)), (64, .one .top (.bool q))], [B3, B11, B20], H9⟩ : St)) h20) ?_
  refine d_take ⟨[E2, (E5 r5), E6, E9, E10, E18, E19, E27, E28, E64, E65, E66, E67, E68, E69, E73, E74, E75, E76, E77, E78, E79, E83, E84, E85, E86, E87, E88, E89, E92, E51, E52, E53], [B3, B11, B20], H9⟩ (by generalize r5 = qp0; cases qp0 <;> kernel_rfl) ?_
  refine d_take ⟨[E2, (E5 r5), E6, E9, E10, E18, E19, E27, E28, E64, E65, E66, E67, E68, E69, E73, E74, E75, E76, E77, E78, E79, E83, E84, E85, E86, E87, E88, E89, E92, E51, E52, E53, E54], [B3, B11, B20], H9⟩ (by generalize r5 = qp0; cases qp0 <;> kernel_rfl) ?_
  refine d_take ⟨[E2, (E5 r5), E6, E9, E10, E18, E19, E27, E28, E64, E65, E66, E67, E68, E69, E73, E74, E75, E76, E77, E78, E79, E83, E84, E85, E86, E87, E88, E89, E92, E51, E52, E53, E54, E55], [B3, B11, B20], H9⟩ (by generalize r5 = qp0; cases qp0 <;> kernel_rfl) ?_
  refine d_take ⟨[E2, (E5 r5), E6, E9, E10, E18, E19, E27, E28, E64, E65, E66, E67, E68, E69, E73, E74, E75, E76, E77, E78, E79, E83, E84, E85, E86, E87, E88, E89, E92, E51, E52, E53, E54, E55, E56], [B3, B11, B20], H9⟩ (by generalize r5 = qp0; cases qp0 <;> kernel_rfl) ?_
  refine d_take ⟨[E2, (E5 r5), E6, E9, E10, E18, E19, E27, E28, E64, E65, E66, E67, E68, E69, E73, E74, E75, E76, E77, E78, E79, E83, E84, E85, E86, E87, E88, E89, E92, E51, E52, E53, E54, E55, E56, E57], [B3, B11, B20], H9⟩ (by generalize r5 = qp0; cases qp0 <;> kernel_rfl) ?_
  refine d_take ⟨[E2, (E5 r5), E6, E9, E10, E18, E19, E27, E28, E64, E65, E66, E67, E68, E69, E73, E74, E75, E76, E77, E78, E79, E83, E84, E85, E86, E87, E88, E89, E92, E51, E52, E53, E54, E55, E56, E57, E58], [B3, B11, B20], H9⟩ (by generalize r5 = qp0; cases qp0 <;> kernel_rfl) ?_
  refine d_last ⟨[E2, (E5 r5), E6, E9, E10, E18, E19, E27, E28, E64, E65, E66, E67, E68, E69, E73, E74, E75, E76, E77, E78, E79, E83, E84, E85, E86, E87, E88, E89, E92, E51, E52, E53, E54, E55, E59, E56, E57, E58], [B3, B11, B20], H9⟩ (by generalize r5 = qp0; cases qp0 <;> kernel_rfl) ?_
  refine d_last ⟨[E2, (E5 r5), E6, E9, E10, E18, E19, E27, E28, E64, E65, E66, E67, E68, E69, E73, E74, E75, E76, E77, E78, E79, E83, E84, E85, E86, E87, E88, E89, E92, E51, E52, E53, E54, E55, E59, E56, E57, E58, E60], [B3, B11, B20], H9⟩ (by generalize r5 = qp0; cases qp0 <;> kernel_rfl) ?_
  refine d_last ⟨[E2, (E5 r5), E6, E9, E10, E18, E19, E27, E28, E64, E65, E66, E67, E68, E69, E73, E74, E75, E76, E77, E78, E79, E83, E84, E85, E86, E87, E88, E89, E92, E51, E52, E53, E54, E55, E59, E56, E57, E58, E60, E61], [B3, B11, B20], H9⟩ (by generalize r5 = qp0; cases qp0 <;> kernel_rfl) ?_
  refine d_take ⟨[E2, (E5 r5), E6, E9, E10, E18, E19, E27, E28, E64, E65, E66, E67, E68, E69, E73, E74, E75, E76, E77, E78, E79, E83, E84, E85, E86, E87, E88, E89, E92, E51, E52, E53, E54, E55, E59, E56, E57, E58, E60, E61, E62], [B3, B11, B20], H9⟩ (by generalize r5 = qp0; cases qp0 <;> kernel_rfl) ?_
  refine d_take ⟨[E2, (E5 r5), E6, E9, E10, E18, E19, E27, E28, E64, E65, E66, E67, E68, E69, E73, E74, E75, E76, E77, E78, E79, E83, E84, E85, E86, E87, E88, E89, E92, E51, E52, E53, E54, E55, E59, E56, E57, E58, E60, E61, E62, E63], [B3, B11, B20], H9⟩ (by generalize r5 = qp0; cases qp0 <;> kernel_rfl) ?_
  cases hB28
  exact d_end (by kernel_rfl)
  refine d_eq (congrArg (fun q => (⟨[E2, (E5 r5), E6, E9, E10, E18, E19, E27, E28, E64, E65, E66, E67, E68, E69, E73, E74, E75, E76, E77, E78, E79, E83, E84, E85, E86, E87, E88, E89, (62, .one .top (.bool q)), (63, .one .top (.bool q)), (64, .one .top (.bool q))], [B3, B11, B20], H9⟩ : St)) h20) ?_
  refine d_take ⟨[E2, (E5 r5), E6, E9, E10, E18, E19, E27, E28, E64, E65, E66, E67, E68, E69, E73, E74, E75, E76, E77, E78, E79, E83, E84, E85, E86, E87, E88, E89, E93, E94, E95, (E96 r5)], [B3, B11, B20], H9⟩ (by generalize r5 = qp0; cases qp0 <;> kernel_rfl) ?_
  refine d_take ⟨[E2, (E5 r5), E6, E9, E10, E18, E19, E27, E28, E64, E65, E66, E67, E68, E69, E73, E74, E75, E76, E77, E78, E79, E83, E84, E85, E86, E87, E88, E89, E93, E94, E95, (E96 r5), E97], [B3, B11, B20], H9⟩ (by generalize r5 = qp0; cases qp0 <;> kernel_rfl) ?_
  refine d_take ⟨[E2, (E5 r5), E6, E9, E10, E18, E19, E27, E28, E64, E65, E66, E67, E68, E69, E73, E74, E75, E76, E77, E78, E79, E83, E84, E85, E86, E87, E88, E89, E93, E94, E95, (E96 r5), E97, E98], [B3, B11, B20], H9⟩ (by generalize r5 = qp0; cases qp0 <;> kernel_rfl) ?_
  refine d_take ⟨[E2, (E5 r5), E6, E9, E10, E18, E19, E27, E28, E64, E65, E66, E67, E68, E69, E73, E74, E75, E76, E77, E78, E79, E83, E84, E85, E86, E87, E88, E89, E93, E94, E95, (E96 r5), E97, E98, E99], [B3, B11, B20], H9⟩ (by generalize r5 = qp0; cases qp0 <;> kernel_rfl) ?_
  refine d_take ⟨[E2, (E5 r5), E6, E9, E10, E18, E19, E27, E28, E64, E65, E66, E67, E68, E69, E73, E74, E75, E76, E77, E78, E79, E83, E84, E85, E86, E87, E88, E89, E93, E94, E95, (E96 r5), E97, E98, E99, E100], [B3, B11, B20], H9⟩ (by generalize r5 = qp0; cases qp0 <;> kernel_rfl) ?_
  refine d_take (S209 r5) (by generalize r5 = qp0; cases qp0 <;> kernel_rfl) ?_
  obtain ⟨r21, c22, hB28⟩ := bind1_inv hB28
  let E102 : Nat × TV := (68, .agg (m1_types_Type r21))
  let E104 : Nat × TV := (68, .agg [(.top, .int .i64 r21.Kind_), (.top, .int .i64 r21.Len_), (.top, .int .i64 r21.Base_), (.top, .int .i64 r21.Size_), (.top, .bool r21.Open_), (.top, .junk)])
  let S210 : Ptr → St := fun z0 => ⟨[E2, (E5 z0), E6, E9, E10, E18, E19, E27, E28, E64, E65, E66, E67, E68, E69, E73, E74, E75, E76, E77, E78, E79, E83, E84, E85, E86, E87, E88, E89, E93, E94, E95, (E96 z0), E97, E98, E102, E99, E100, E101], [B3, B11, B20], H9⟩
  refine d_last (S210 r5) (st_call (d := (some 68)) (fz := false) (pure := true) (own := false) (S209 r5) (ok_types_Table_Get H9 c22) (by generalize r5 = qp0; cases qp0 <;> kernel_rfl) (by generalize r5 = qp0; cases qp0 <;> kernel_rfl)) ?_
  obtain ⟨r23, c24, hB28⟩ := bind1_inv hB28
  let E103 : Nat × TV := (72, .agg (m0_ref09_Type r23))
  refine d_last ⟨[E2, (E5 r5), E6, E9, E10, E18, E19, E27, E28, E64, E65, E66, E67, E68, E69, E73, E74, E75, E76, E77, E78, E79, E83, E84, E85, E86, E87, E88, E89, E93, E94, E95, (E96 r5), E97, E98, E102, E99, E100, E101, E103], [B3, B11, B20], H9⟩ (st_call (d := (some 72)) (fz := false) (pure := true) (own := false) (S210 r5) (ok_ref09_Get H9 c24) (by generalize r5 = qp0; cases qp0 <;> kernel_rfl) (by generalize r5 = qp0; cases qp0 <;> kernel_rfl)) ?_
  obtain ⟨r25, c26, hB28⟩ := bind1_inv hB28
  let E105 : Nat × TV := (73, .one .top (.bool r25))
  refine d_last ⟨[E2, (E5 r5), E6, E9, E10, E18, E19, E27, E28, E64, E65, E66, E67, E68, E69, E73, E74, E75, E76, E77, E78, E79, E83, E84, E85, E86, E87, E88, E89, E93, E94, E95, (E96 r5), E97, E98, E104, E99, E100, E101, E103, E105], [B3, B11, B20], H9⟩ (st_call (d := (some 73)) (fz := false) (pure := true) (own := true) (⟨[E2, (E5 r5), E6, E9, E10, E18, E19, E27, E28, E64, E65, E66, E67, E68, E69, E73, E74, E75, E76, E77, E78, E79, E83, E84, E85, E86, E87, E88, E89, E93, E94, E95, (E96 r5), E97, E98, E104, E99, E100, E101, E103], [B3, B11, B20], H9⟩ : St) (ok_law09_is H9 c26) (by generalize r5 = qp0; cases qp0 <;> kernel_rfl) (by generalize r5 = qp0; cases qp0 <;> kernel_rfl)) ?_
  refine d_take ⟨[E2, (E5 r5), E6, E9, E10, E18, E19, E27, E28, E64, E65, E66, E67, E68, E69, E73, E74, E75, E76, E77, E78, E79, E83, E84, E85, E86, E87, E88, E89, E93, E94, E95, (E96 r5), E97, E98, E104, E99, E100, E101, E103, E105, (74, .one .top (.bool (!r25)))], [B3, B11, B20], H9⟩ (by generalize r5 = qp0; cases qp0 <;> kernel_rfl) ?_
  refine d_take ⟨[E2, (E5 r5), E6, E9, E10, E18, E19, E27, E28, E64, E65, E66, E67, E68, E69, E73, E74, E75, E76, E77, E78, E79, E83, E84, E85, E86, E87, E88, E89, E93, E94, E95, (E96 r5), E97, E98, E104, E99, E100, E101, E103, E105, (74, .one .top (.bool (!r25))), (75, .one .top (.bool (!r25)))], [B3, B11, B20], H9⟩ (by generalize r5 = qp0; cases qp0 <;> kernel_rfl) ?_
  cases hB28
  exact d_end (by kernel_rfl)
  rcases if_inv hF with ⟨h29, hF⟩ | ⟨h29, hF⟩
  refine w_cT (m := .top) h29 (s1 := (⟨[], [], H9⟩ : St)) (by kernel_rfl) (by kernel_rfl) ?_
  refine w_seq ?_
  refine w_reg ⟨[E4], [], H9⟩ (by kernel_rfl) ?_
  refine w_ret ?_
  obtain ⟨e0, e1⟩ := some2_inv hF
  subst e0
  subst e1
  exact fin_imp (v := .one .top (.bool false)) (by kernel_rfl) (by kernel_rfl) (by kernel_rfl)
  refine w_cF (m := .top) h29 (s1 := (S206 r5)) (by kernel_rfl) (by kernel_rfl) ?_
  refine w_skip ?_
  refine w_seq ?_
  obtain ⟨r30, c31, hF⟩ := bind1_inv hF
  let E112 : Nat × TV := (79, .one .top (.bool r30))
  let S212 : Ptr → St := fun z0 => ⟨[E2, (E5 z0), E6, (E106 z0), E107, E108, E112, E109, E110, E111], [B3], H9⟩
  obtain ⟨r32, c33, hF⟩ := bind1_inv hF
  let E113 : Nat × TV := (83, .one .top (.bool r32))
  let E114 : Nat × TV := (84, .one .top (.bool (r30 == r32)))
  let S213 : Ptr → St := fun z0 => ⟨[E2, (E5 z0), E6, (E106 z0), E107, E108, E112, E109, E110, E111, E113, E115, E116, (E117 z0), E118, E119, E120, E121, E122, E123, E124, E125, E126], [B3], H9⟩
  obtain ⟨w49, hB50, hF⟩ := bind1_inv hF
  refine w_regD (.take 0 (.take 1 (.take 2 (.take 4 (.take 5 (.take 6 (.last 3 (.last 7 (.take 8 (.take 9 (.take 10 (.take 11 (.take 12 (.take 13 (.take 14 (.take 16 (.take 17 (.take 18 (.take 19 (.take 20 (.last 15 (.last 21 (.take 22 (.take 23 (.take 24 (.take 25 (.take 26 (.take 27 (.take 28 (.take 29 (.take 31 (.take 32 (.take 33 (.take 34 (.take 35 (.last 30 (.last 36 (.take 37 (.take 38 (.take 39 (.take 40 (.take 41 (.take 42 (.take 44 (.take 45 (.take 46 (.last 43 (.last 47 (.take 48 (.take 49 (.take 50 .done))))))))))))))))))))))))))))))))))))))))))))))))))) (by kernel_rfl) (⟨[(4, .one .top (.bool w49))], [], H9⟩ : St) ?_ ?_
  refine d_take ⟨[E2, (E5 r5), E6, (E106 r5)], [B3], H9⟩ (by generalize r5 = qp0; cases qp0 <;> kernel_rfl) ?_
  refine d_take ⟨[E2, (E5 r5), E6, (E106 r5), E107], [B3], H9⟩ (by generalize r5 = qp0; cases qp0 <;> kernel_rfl) ?_
  refine d_take ⟨[E2, (E5 r5), E6, (E106 r5), E107, E108], [B3], H9⟩ (by generalize r5 = qp0; cases qp0 <;> kernel_rfl) ?_
  refine d_take ⟨[E2, (E5 r5), E6, (E106 r5), E107, E108, E109], [B3], H9⟩ (by generalize r5 = qp0; cases qp0 <;> kernel_rfl) ?_
  refine d_take ⟨[E2, (E5 r5), E6, (E106 r5), E107, E108, E109, E110], [B3], H9⟩ (by generalize r5 = qp0; cases qp0 <;> kernel_rfl) ?_
  refine d_take (S211 r5) (by generalize r5 = qp0; cases qp0 <;> kernel_rfl) ?_
  refine d_last (S212 r5) (st_call (d := (some 79)) (fz := false) (pure := true) (own := false) (S211 r5) (ok_types_Table_Simple H9 c31) (by generalize r5 = qp0; cases qp0 <;> kernel_rfl) (by generalize r5 = qp0; cases qp0 <;> kernel_rfl)) ?_
  refine d_last ⟨[E2, (E5 r5), E6, (E106 r5), E107, E108, E112, E109, E110, E111, E113], [B3], H9⟩ (st_call (d := (some 83)) (fz := false) (pure := true) (own := false) (S212 r5) (ok_ref09_Simple H9 c33) (by generalize r5 = qp0; cases qp0 <;> kernel_rfl) (by generalize r5 = qp0; cases qp0 <;> kernel_rfl)) ?_
  refine d_take ⟨[E2, (E5 r5), E6, (E106 r5), E107, E108, E112, E109, E110, E111, E113, E114], [B3], H9⟩ (by generalize r5 = qp0; cases qp0 <;> kernel_rfl) ?_
  refine d_take ⟨[E2, (E5 r5), E6, (E106 r5), E107, E108, E112, E109, E110, E111, E113, E114, (85, .one .top (.bool (r30 == r32)))], [B3], H9⟩ (by generalize r5 = qp0; cases qp0 <;> kernel_rfl) ?_
  rcases if_inv hB50 with ⟨h34, hB50⟩ | ⟨h34, hB50⟩
  refine d_eq (congrArg (fun q => (⟨[E2, (E5 r5), E6, (E106 r5), E107, E108, E112, E109, E110, E111, E113, (84, .one .top (.bool q)), (85, .one .top (.bool q))], [B3], H9⟩ : St)) h34) ?_
  refine d_take ⟨[E2, (E5 r5), E6, (E106 r5), E107, E108, E112, E109, E110, E111, E113, E115, E116, (E117 r5)], [B3], H9⟩ (by generalize r5 = qp0; cases qp0 <;> kernel_rfl) ?_
  refine d_take ⟨[E2, (E5 r5), E6, (E106 r5), E107, E108, E112, E109, E110, E111, E113, E115, E116, (E117 r5), E118], [B3], H9⟩ (by generalize r5 = qp0; cases qp0 <;> kernel_rfl) ?_
  refine d_take ⟨[E2, (E5 r5), E6, (E106 r5), E107, E108, E112, E109, E110, E111, E113, E115, E116, (E117 r5), E118, E119], [B3], H9⟩ (by generalize r5 = qp0; cases qp0 <;> kernel_rfl) ?_
  refine d_take ⟨[E2, (E5 r5), E6, (E106 r5), E107, E108, E112, E109, E110, E111, E113, E115, E116, (E117 r5), E118, E119, E120], [B3], H9⟩ (by generalize r5 = qp0; cases qp0 <;> kernel_rfl) ?_
  refine d_take ⟨[E2, (E5 r5), E6, (E106 r5), E107, E108, E112, E109, E110, E111, E113, E115, E116, (E117 r5), E118, E119, E120, E121], [B3], H9⟩ (by generalize r5 = qp0; cases qp0 <;> kernel_rfl) ?_
  refine d_take ⟨[E2, (E5 r5), E6, (E106 r5), E107, E108, E112, E109, E110, E111, E113, E115, E116, (E117 r5), E118, E119, E120, E121, E122], [B3], H9⟩ (by generalize r5 = qp0; cases qp0 <;> kernel_rfl) ?_
  refine d_take ⟨[E2, (E5 r5), E6, (E106 r5), E107, E108, E112, E109, E110, E111, E113, E115, E116, (E117 r5), E118, E119, E120, E121, E122, E123], [B3], H9⟩ (by generalize r5 = qp0; cases qp0 <;> kernel_rfl) ?_
  refine d_take ⟨[E2, (E5 r5), E6, (E106 r5), E107, E108, E112, E109, E110, E111, E113, E115, E116, (E117 r5), E118, E119, E120, E121, E122, E123, E124], [B3], H9⟩ (by generalize r5 = qp0; cases qp0 <;> kernel_rfl) ?_
  refine d_take ⟨[E2, (E5 r5), E6, (E106 r5), E107, E108, E112, E109, E110, E111, E113, E115, E116, (E117 r5), E118, E119, E120, E121, E122, E123, E124, E125], [B3], H9⟩ (by generalize r5 = qp0; cases qp0 <;> kernel_rfl) ?_
  refine d_take (S213 r5) (by generalize r5 = qp0; cases qp0 <;> kernel_rfl) ?_
  obtain ⟨r35, c36, hB50⟩ := bind1_inv hB50
  let E127 : Nat × TV := (91, .one .top (.bool r35))
  let S214 : Ptr → St := fun z0 => ⟨[E2, (E5 z0), E6, (E106 z0), E107, E108, E112, E109, E110, E111, E113, E115, E116, (E117 z0), E118, E119, E120, E121, E127, E122, E123, E124, E125, E126], [B3], H9⟩
  refine d_last (S214 r5) (st_call (d := (some 91)) (fz := false) (pure := true) (own := false) (S213 r5) (ok_types_Table_Takes H9 c36) (by generalize r5 = qp0; cases qp0 <;> kernel_rfl) (by generalize r5 = qp0; cases qp0 <;> kernel_rfl)) ?_
  obtain ⟨r37, c38, hB50⟩ := bind1_inv hB50
  let E128 : Nat × TV := (97, .one .top (.bool r37))
  let E129 : Nat × TV := (98, .one .top (.bool (r35 == r37)))
  let E130 : Nat × TV := (99, .one .top (.bool (r35 == r37)))
  let S215 : Ptr → St := fun z0 => ⟨[E2, (E5 z0), E6, (E106 z0), E107, E108, E112, E109, E110, E111, E113, E115, E116, (E117 z0), E118, E119, E120, E121, E127, E122, E123, E124, E125, E126, E128, E131, E132, E133, (E134 z0), E135, E136, E137, E138, E139, E140, E141, E142, E143], [B3], H9⟩
  refine d_last ⟨[E2, (E5 r5), E6, (E106 r5), E107, E108, E112, E109, E110, E111, E113, E115, E116, (E117 r5), E118, E119, E120, E121, E127, E122, E123, E124, E125, E126, E128], [B3], H9⟩ (st_call (d := (some 97)) (fz := false) (pure := true) (own := false) (S214 r5) (ok_ref09_Takes H9 c38) (by generalize r5 = qp0; cases qp0 <;> kernel_rfl) (by generalize r5 = qp0; cases qp0 <;> kernel_rfl)) ?_
  refine d_take ⟨[E2, (E5 r5), E6, (E106 r5), E107, E108, E112, E109, E110, E111, E113, E115, E116, (E117 r5), E118, E119, E120, E121, E127, E122, E123, E124, E125, E126, E128, E129], [B3], H9⟩ (by generalize r5 = qp0; cases qp0 <;> kernel_rfl) ?_
  refine d_take ⟨[E2, (E5 r5), E6, (E106 r5), E107, E108, E112, E109, E110, E111, E113, E115, E116, (E117 r5), E118, E119, E120, E121, E127, E122, E123, E124, E125, E126, E128, E129, E130], [B3], H9⟩ (by generalize r5 = qp0; cases qp0 <;> kernel_rfl) ?_
  refine d_take ⟨[E2, (E5 r5), E6, (E106 r5), E107, E108, E112, E109, E110, E111, E113, E115, E116, (E117 r5), E118, E119, E120, E121, E127, E122, E123, E124, E125, E126, E128, E129, E130, (100, .one .top (.bool (r35 == r37)))], [B3], H9⟩ (by generalize r5 = qp0; cases qp0 <;> kernel_rfl) ?_
  rcases if_inv hB50 with ⟨h39, hB50⟩ | ⟨h39, hB50⟩
  refine d_eq (congrArg (fun q => (⟨[E2, (E5 r5), E6, (E106 r5), E107, E108, E112, E109, E110, E111, E113, E115, E116, (E117 r5), E118, E119, E120, E121, E127, E122, E123, E124, E125, E126, E128, (98, .one .top (.bool q)), (99, .one .top (.bool q)), (100, .one .top (.bool q))], [B3], H9⟩ : St)) h39) ?_
  refine d_take ⟨[E2, (E5 r5), E6, (E106 r5), E107, E108, E112, E109, E110, E111, E113, E115, E116, (E117 r5), E118, E119, E120, E121, E127, E122, E123, E124, E125, E126, E128, E131, E132, E133, (E134 r5)], [B3], H9⟩ (by generalize r5 = qp0; cases qp0 <;> kernel_rfl) ?_
  refine d_take ⟨[E2, (E5 r5), E6, (E106 r5), E107, E108, E112, E109, E110, E111, E113, E115, E116, (E117 r5), E118, E119, E120, E121, E127, E122, E123, E124, E125, E126, E128, E131, E132, E133, (E134 r5), E135], [B3], H9⟩ (by generalize r5 = qp0; cases qp0 <;> kernel_rfl) ?_
  refine d_take ⟨[E2, (E5 r5), E6, (E106 r5), E107, E108, E112, E109, E110, E111, E113, E115, E116, (E117 r5), E118, E119, E120, E121, E127, E122, E123, E124, E125, E126, E128, E131, E132, E133, (E134 r5), E135, E136], [B3], H9⟩ (by generalize r5 = qp0; cases qp0 <;> kernel_rfl) ?_
  refine d_take ⟨[E2, (E5 r5), E6, (E106 r5), E107, E108, E112, E109, E110, E111, E113, E115, E116, (E117 r5), E118, E119, E120, E121, E127, E122, E123, E124, E125, E126, E128, E131, E132, E133, (E134 r5), E135, E136, E137], [B3], H9⟩ (by generalize r5 = qp0; cases qp0 <;> kernel_rfl) ?_
  refine d_take ⟨[E2, (E5 r5), E6, (E106 r5), E107, E108, E112, E109, E110, E111, E113, E115, E116, (E117 r5), E118, E119, E120, E121, E127, E122, E123, E124, E125, E126, E128, E131, E132, E133, (E134 r5), E135, E136, E137, E138], [B3], H9⟩ (by generalize r5 = qp0; cases qp0 <;> kernel_rfl) ?_
  refine d_take ⟨[E2, (E5 r5), E6, (E106 r5), E107, E108, E112, E109, E110, E111, E113, E115, E116, (E117 r5), E118, E119, E120, E121, E127, E122, E123, E124, E125, E126, E128, E131, E132, E133, (E134 r5), E135, E136, E137, E138, E139], [B3], H9⟩ (by generalize r5 = qp0; cases qp0 <;> kernel_rfl) ?_
  refine d_take ⟨[E2, (E5 r5), E6, (E106 r5), E107, E108, E112, E109, E110, E111, E113, E115, E116, (E117 r5), E118, E119, E120, E121, E127, E122, E123, E124, E125, E126, E128, E131, E132, E133, (E134 r5), E135, E136, E137, E138, E139, E140], [B3], H9⟩ (by generalize r5 = qp0; cases qp0 <;> kernel_rfl) ?_
  refine d_take ⟨[E2, (E5 r5), E6, (E106 r5), E107, E108, E112, E109, E110, E111, E113, E115, E116, (E117 r5), E118, E119, E120, E121, E127, E122, E123, E124, E125, E126, E128, E131, E132, E133, (E134 r5), E135, E136, E137, E138, E139, E140, E141], [B3], H9⟩ (by generalize r5 = qp0; cases qp0 <;> kernel_rfl) ?_
  refine d_take ⟨[E2, (E5 r5), E6, (E106 r5), E107, E108, E112, E109, E110, E111, E113, E115, E116, (E117 r5), E118, E119, E120, E121, E127, E122, E123, E124, E125, E126, E128, E131, E132, E133, (E134 r5), E135, E136, E137, E138, E139, E140, E141, E142], [B3], H9⟩ (by generalize r5 = qp0; cases qp0 <;> kernel_rfl) ?_
  refine d_take (S215 r5) (by generalize r5 = qp0; cases qp0 <;> kernel_rfl) ?_
  obtain ⟨r40, c41, hB50⟩ := bind1_inv hB50
  let E144 : Nat × TV := (106, .one .top (.bool r40))
  let S216 : Ptr → St := fun z0 => ⟨[E2, (E5 z0), E6, (E106 z0), E107, E108, E112, E109, E110, E111, E113, E115, E116, (E117 z0), E118, E119, E120, E121, E127, E122, E123, E124, E125, E126, E128, E131, E132, E133, (E134 z0), E135, E136, E137, E138, E144, E139, E140, E141, E142, E143], [B3], H9⟩
  refine d_last (S216 r5) (st_call (d := (some 106)) (fz := false) (pure := true) (own := false) (S215 r5) (ok_types_Table_Equals H9 c41) (by generalize r5 = qp0; cases qp0 <;> kernel_rfl) (by generalize r5 = qp0; cases qp0 <;> kernel_rfl)) ?_
  obtain ⟨r42, c43, hB50⟩ := bind1_inv hB50
  let E145 : Nat × TV := (112, .one .top (.bool r42))
  let E146 : Nat × TV := (113, .one .top (.bool (r40 == r42)))
  let E147 : Nat × TV := (114, .one .top (.bool (r40 == r42)))
  let S217 : Ptr → St := fun z0 => ⟨[E2, (E5 z0), E6, (E106 z0), E107, E108, E112, E109, E110, E111, E113, E115, E116, (E117 z0), E118, E119, E120, E121, E127, E122, E123, E124, E125, E126, E128, E131, E132, E133, (E134 z0), E135, E136, E137, E138, E144, E139, E140, E141, E142, E143, E145, E148, E149, E150, (E151 z0), E152, E153, E154, E155, E156], [B3], H9⟩
  refine d_last ⟨[E2, (E5 r5), E6, (E106 r5), E107, E108, E112, E109, E110, E111, E113, E115, E116, (E117 r5), E118, E119, E120, E121, E127, E122, E123, E124, E125, E126, E128, E131, E132, E133, (E134 r5), E135, E136, E137, E138, E144, E139, E140, E141, E142, E143, E145], [B3], H9⟩ (st_call (d := (some 112)) (fz := false) (pure := true) (own := false) (S216 r5) (ok_ref09_Equals H9 c43) (by generalize r5 = qp0; cases qp0 <;> kernel_rfl) (by generalize r5 = qp0; cases qp0 <;> kernel_rfl)) ?_
  refine d_take ⟨[E2, (E5 r5), E6, (E106 r5), E107, E108, E112, E109, E110, E111, E113, E115, E116, (E117 r5), E118, E119, E120, E121, E127, E122, E123, E124, E125, E126, E128, E131, E132, E133, (E134 r5), E135, E136, E137, E138, E144, E139, E140, E141, E142, E143, E145, E146], [B3], H9⟩ (by generalize r5 = qp0; cases qp0 <;> kernel_rfl) ?_
  refine d_take ⟨[E2, (E5 r5), E6, (E106 r5), E107, E108, E112, E109, E110, E111, E113, E115, E116, (E117 r5), E118, E119, E120, E121, E127, E122, E123, E124, E125, E126, E128, E131, E132, E133, (E134 r5), E135, E136, E137, E138, E144, E139, E140, E141, E142, E143, E145, E146, E147], [B3], H9⟩ (by generalize r5 = qp0; cases qp0 <;> kernel_rfl) ?_
  refine d_take ⟨[E2, (E5 r5), E6, (E106 r5), E107, E108, E112, E109, E110, E111, E113, E115, E116, (E117 r5), E118, E119, E120, E121, E127, E122, E123, E124, E125, E126, E128, E131, E132, E133, (E134 r5), E135, E136, E137, E138, E144, E139, E140, E141, E142, E143, E145, E146, E147, (115, .one .top (.bool (r40 == r42)))], [B3], H9⟩ (by generalize r5 = qp0; cases qp0 <;> kernel_rfl) ?_
  rcases if_inv hB50 with ⟨h44, hB50⟩ | ⟨h44, hB50⟩
  refine d_eq (congrArg (fun q => (⟨[E2, (E5 r5), E6, (E106 r5), E107, E108, E112, E109, E110, E111, E113, E115, E116, (E117 r5), E118, E119, E120, E121, E127, E122, E123, E124, E125, E126, E128, E131, E132, E133, (E134 r5), E135, E136, E137, E138, E144, E139, E140, E141, E142, E143, E145, (113, .one .top (.bool q)), (114, .one .top (.bool q)), (115, .one .top (.bool q))], [B3], H9⟩ : St)) h44) ?_
  refine d_take ⟨[E2, (E5 r5), E6, (E106 r5), E107, E108, E112, E109, E110, E111, E113, E115, E116, (E117 r5), E118, E119, E120, E121, E127, E122, E123, E124, E125, E126, E128, E131, E132, E133, (E134 r5), E135, E136, E137, E138, E144, E139, E140, E141, E142, E143, E145, E148, E149, E150, (E151 r5)], [B3], H9⟩ (by generalize r5 = qp0; cases qp0 <;> kernel_rfl) ?_
  refine d_take ⟨[E2, (E5 r5), E6, (E106 r5), E107, E108, E112, E109, E110, E111, E113, E115, E116, (E117 r5), E118, E119, E120, E121, E127, E122, E123, E124, E125, E126, E128, E131, E132, E133, (E134 r5), E135, E136, E137, E138, E144, E139, E140, E141, E142, E143, E145, E148, E149, E150, (E151 r5), E152], [B3], H9⟩ (by generalize r5 = qp0; cases qp0 <;> kernel_rfl) ?_
  refine d_take ⟨[E2, (E5 r5), E6, (E106 r5), E107, E108, E112, E109, E110, E111, E113, E115, E116, (E117 r5), E118, E119, E120, E121, E127, E122, E123, E124, E125, E126, E128, E131, E132, E133, (E134 r5), E135, E136, E137, E138, E144, E139, E140, E141, E142, E143, E145, E148, E149, E150, (E151 r5), E152, E153], [B3], H9⟩ (by generalize r5 = qp0; cases qp0 <;> kernel_rfl) ?_
  refine d_take ⟨[E2, (E5 r5), E6, (E106 r5), E107, E108, E112, E109, E110, E111, E113, E115, E116, (E117 r5), E118, E119, E120, E121, E127, E122, E123, E124, E125, E126, E128, E131, E132, E133, (E134 r5), E135, E136, E137, E138, E144, E139, E140, E141, E142, E143, E145, E148, E149, E150, (E151 r5), E152, E153, E154], [B3], H9⟩ (by generalize r5 = qp0; cases qp0 <;> kernel_rfl) ?_
  refine d_take ⟨[E2, (E5 r5), E6, (E106 r5), E107, E108, E112, E109, E110, E111, E113, E115, E116, (E117 r5), E118, E119, E120, E121, E127, E122, E123, E124, E125, E126, E128, E131, E132, E133, (E134 r5), E135, E136, E137, E138, E144, E139, E140, E141, E142, E143, E145, E148, E149, E150, (E151 r5), E152, E153, E154, E155], [B3], H9⟩ (by generalize r5 = qp0; cases qp0 <;> kernel_rfl) ?_
  refine d_take (S217 r5) (by generalize r5 = qp0; cases qp0 <;> kernel_rfl) ?_
  obtain ⟨r45, c46, hB50⟩ := bind1_inv hB50
  let E157 : Nat × TV := (119, .one .top (.bool r45))
  let S218 : Ptr → St := fun z0 => ⟨[E2, (E5 z0), E6, (E106 z0), E107, E108, E112, E109, E110, E111, E113, E115, E116, (E117 z0), E118, E119, E120, E121, E127, E122, E123, E124, E125, E126, E128, E131, E132, E133, (E134 z0), E135, E136, E137, E138, E144, E139, E140, E141, E142, E143, E145, E148, E149, E150, (E151 z0), E152, E153, E157, E154, E155, E156], [B3], H9⟩
  refine d_last (S218 r5) (st_call (d := (some 119)) (fz := false) (pure := true) (own := false) (S217 r5) (ok_types_Table_Ordered H9 c46) (by generalize r5 = qp0; cases qp0 <;> kernel_rfl) (by generalize r5 = qp0; cases qp0 <;> kernel_rfl)) ?_
  obtain ⟨r47, c48, hB50⟩ := bind1_inv hB50
  let E158 : Nat × TV := (123, .one .top (.bool r47))
  let E159 : Nat × TV := (124, .one .top (.bool (r45 == r47)))
  let E160 : Nat × TV := (125, .one .top (.bool (r45 == r47)))
  refine d_last ⟨[E2, (E5 r5), E6, (E106 r5), E107, E108, E112, E109, E110, E111, E113, E115, E116, (E117 r5), E118, E119, E120, E121, E127, E122, E123, E124, E125, E126, E128, E131, E132, E133, (E134 r5), E135, E136, E137, E138, E144, E139, E140, E141, E142, E143, E145, E148, E149, E150, (E151 r5), E152, E153, E157, E154, E155, E156, E158], [B3], H9⟩ (st_call (d := (some 123)) (fz := false) (pure := true) (own := false) (S218 r5) (ok_ref09_Ordered H9 c48) (by generalize r5 = qp0; cases qp0 <;> kernel_rfl) (by generalize r5 = qp0; cases qp0 <;> kernel_rfl)) ?_
  refine d_take ⟨[E2, (E5 r5), E6, (E106 r5), E107, E108, E112, E109, E110, E111, E113, E115, E116, (E117 r5), E118, E119, E120, E121, E127, E122, E123, E124, E125, E126, E128, E131, E132, E133, (E134 r5), E135, E136, E137, E138, E144, E139, E140, E141, E142, E143, E145, E148, E149, E150, (E151 r5), E152, E153, E157, E154, E155, E156, E158, E159], [B3], H9⟩ (by generalize r5 = qp0; cases qp0 <;> kernel_rfl) ?_
  refine d_take ⟨[E2, (E5 r5), E6, (E106 r5), E107, E108, E112, E109, E110, E111, E113, E115, E116, (E117 r5), E118, E119, E120, E121, E127, E122, E123, E124, E125, E126, E128, E131, E132, E133, (E134 r5), E135, E136, E137, E138, E144, E139, E140, E141, E142, E143, E145, E148, E149, E150, (E151 r5), E152, E153, E157, E154, E155, E156, E158, E159, E160], [B3], H9⟩ (by generalize r5 = qp0; cases qp0 <;> kernel_rfl) ?_
  refine d_take ⟨[E2, (4, .one .top (.bool (r45 == r47))), (E5 r5), E6, (E106 r5), E107, E108, E112, E109, E110, E111, E113, E115, E116, (E117 r5), E118, E119, E120, E121, E127, E122, E123, E124, E125, E126, E128, E131, E132, E133, (E134 r5), E135, E136, E137, E138, E144, E139, E140, E141, E142, E143, E145, E148, E149, E150, (E151 r5), E152, E153, E157, E154, E155, E156, E158, E159, E160], [B3], H9⟩ (by generalize r5 = qp0; cases qp0 <;> kernel_rfl) ?_
  cases hB50
  exact d_end (by kernel_rfl)
  refine d_eq (congrArg (fun q => (⟨[E2, (E5 r5), E6, (E106 r5), E107, E108, E112, E109, E110, E111, E113, E115, E116, (E117 r5), E118, E119, E120, E121, E127, E122, E123, E124, E125, E126, E128, E131, E132, E133, (E134 r5), E135, E136, E137, E138, E144, E139, E140, E141, E142, E143, E145, (113, .one .top (.bool q)), (114, .one .top (.bool q)), (115, .one .top (.bool q))], [B3], H9⟩ : St)) h44) ?_
  refine d_take ⟨[E2, (E5 r5), E6, (E106 r5), E107, E108, E112, E109, E110, E111, E113, E115, E116, (E117 r5), E118, E119, E120, E121, E127, E122, E123, E124, E125, E126, E128, E131, E132, E133, (E134 r5), E135, E136, E137, E138, E144, E139, E140, E141, E142, E143, E145, E161, E162, E163, E164], [B3], H9⟩ (by generalize r5 = qp0; cases qp0 <;> kernel_rfl) ?_
  refine d_take ⟨[E2, (E5 r5), E6, (E106 r5), E107, E108, E112, E109, E110, E111, E113, E115, E116, (E117 r5), E118, E119, E120, E121, E127, E122, E123, E124, E125, E126, E128, E131, E132, E133, (E134 r5), E135, E136, E137, E138, E144, E139, E140, E141, E142, E143, E145, E161, E162, E163, E164, E165], [B3], H9⟩ (by generalize r5 = qp0; cases qp0 <;> kernel_rfl) ?_
  refine d_take ⟨[E2, (E5 r5), E6, (E106 r5), E107, E108, E112, E109, E110, E111, E113, E115, E116, (E117 r5), E118, E119, E120, E121, E127, E122, E123, E124, E125, E126, E128, E131, E132, E133, (E134 r5), E135, E136, E137, E138, E144, E139, E140, E141, E142, E143, E145, E161, E162, E163, E164, E165, E166], [B3], H9⟩ (by generalize r5 = qp0; cases qp0 <;> kernel_rfl) ?_
  refine d_take ⟨[E2, (E5 r5), E6, (E106 r5), E107, E108, E112, E109, E110, E111, E113, E115, E116, (E117 r5), E118, E119, E120, E121, E127, E122, E123, E124, E125, E126, E128, E131, E132, E133, (E134 r5), E135, E136, E137, E138, E144, E139, E140, E141, E142, E143, E145, E161, E162, E163, E164, E165, E166, E167], [B3], H9⟩ (by generalize r5 = qp0; cases qp0 <;> kernel_rfl) ?_
  refine d_take ⟨[E2, (E5 r5), E6, (E106 r5), E107, E108, E112, E109, E110, E111, E113, E115, E116, (E117 r5), E118, E119, E120, E121, E127, E122, E123, E124, E125, E126, E128, E131, E132, E133, (E134 r5), E135, E136, E137, E138, E144, E139, E140, E141, E142, E143, E145, E161, E162, E163, E164, E165, E166, E167, E168], [B3], H9⟩ (by generalize r5 = qp0; cases qp0 <;> kernel_rfl) ?_
  refine d_take ⟨[E2, (E5 r5), E6, (E106 r5), E107, E108, E112, E109, E110, E111, E113, E115, E116, (E117 r5), E118, E119, E120, E121, E127, E122, E123, E124, E125, E126, E128, E131, E132, E133, (E134 r5), E135, E136, E137, E138, E144, E139, E140, E141, E142, E143, E145, E161, E162, E163, E164, E165, E166, E167, E168, E169], [B3], H9⟩ (by generalize r5 = qp0; cases qp0 <;> kernel_rfl) ?_
  refine d_last ⟨[E2, (E5 r5), E6, (E106 r5), E107, E108, E112, E109, E110, E111, E113, E115, E116, (E117 r5), E118, E119, E120, E121, E127, E122, E123, E124, E125, E126, E128, E131, E132, E133, (E134 r5), E135, E136, E137, E138, E144, E139, E140, E141, E142, E143, E145, E161, E162, E163, E164, E165, E166, E170, E167, E168, E169], [B3], H9⟩ (by generalize r5 = qp0; cases qp0 <;> kernel_rfl) ?_
  refine d_last ⟨[E2, (E5 r5), E6, (E106 r5), E107, E108, E112, E109, E110, E111, E113, E115, E116, (E117 r5), E118, E119, E120, E121, E127, E122, E123, E124, E125, E126, E128, E131, E132, E133, (E134 r5), E135, E136, E137, E138, E144, E139, E140, E141, E142, E143, E145, E161, E162, E163, E164, E165, E166, E170, E167, E168, E169, E171], [B3], H9⟩ (by generalize r5 = qp0; cases qp0 <;> kernel_rfl) ?_
  refine d_take ⟨[E2, (E5 r5), E6, (E106 r5), E107, E108, E112, E109, E110, E111, E113, E115, E116, (E117 r5), E118, E119, E120, E121, E127, E122, E123, E124, E125, E126, E128, E131, E132, E133, (E134 r5), E135, E136, E137, E138, E144, E139, E140, E141, E142, E143, E145, E161, E162, E163, E164, E165, E166, E170, E167, E168, E169, E171, E172], [B3], H9⟩ (by generalize r5 = qp0; cases qp0 <;> kernel_rfl) ?_
  refine d_take ⟨[E2, (E5 r5), E6, (E106 r5), E107, E108, E112, E109, E110, E111, E113, E115, E116, (E117 r5), E118, E119, E120, E121, E127, E122, E123, E124, E125, E126, E128, E131, E132, E133, (E134 r5), E135, E136, E137, E138, E144, E139, E140, E141, E142, E143, E145, E161, E162, E163, E164, E165, E166, E170, E167, E168, E169, E171, E172, E173], [B3], H9⟩ (by generalize r5 = qp0; cases qp0 <;> kernel_rfl) ?_
  refine d_take ⟨[E2, E4, (E5 r5), E6, (E106 r5), E107, E108, E112, E109, E110, E111, E113, E115, E116, (E117 r5), E118, E119, E120, E121, E127, E122, E123, E124, E125, E126, E128, E131, E132, E133, (E134 r5), E135, E136, E137, E138, E144, E139, E140, E141, E142, E143, E145, E161, E162, E163, E164, E165, E166, E170, E167, E168, E169, E171, E172, E173], [B3], H9⟩ (by generalize r5 = qp0; cases qp0 <;> kernel_rfl) ?_
  cases hB50
  exact d_end (by kernel_rfl)
  refine d_eq (congrArg (fun q => (⟨[E2, (E5 r5), E6, (E106 r5), E107, E108, E112, E109, E110, E111, E113, E115, E116, (E117 r5), E118, E119, E120, E121, E127, E122, E123, E124, E125, E126, E128, (98, .one .top (.bool q)), (99, .one .top (.bool q)), (100, .one .top (.bool q))], [B3], H9⟩ : St)) h39) ?_
  refine d_take ⟨[E2, (E5 r5), E6, (E106 r5), E107, E108, E112, E109, E110, E111, E113, E115, E116, (E117 r5), E118, E119, E120, E121, E127, E122, E123, E124, E125, E126, E128, E174, E175, E176, E177], [B3], H9⟩ (by generalize r5 = qp0; cases qp0 <;> kernel_rfl) ?_
  refine d_take ⟨[E2, (E5 r5), E6, (E106 r5), E107, E108, E112, E109, E110, E111, E113, E115, E116, (E117 r5), E118, E119, E120, E121, E127, E122, E123, E124, E125, E126, E128, E174, E175, E176, E177, E178], [B3], H9⟩ (by generalize r5 = qp0; cases qp0 <;> kernel_rfl) ?_
  refine d_take ⟨[E2, (E5 r5), E6, (E106 r5), E107, E108, E112, E109, E110, E111, E113, E115, E116, (E117 r5), E118, E119, E120, E121, E127, E122, E123, E124, E125, E126, E128, E174, E175, E176, E177, E178, E179], [B3], H9⟩ (by generalize r5 = qp0; cases qp0 <;> kernel_rfl) ?_
  refine d_take ⟨[E2, (E5 r5), E6, (E106 r5), E107, E108, E112, E109, E110, E111, E113, E115, E116, (E117 r5), E118, E119, E120, E121, E127, E122, E123, E124, E125, E126, E128, E174, E175, E176, E177, E178, E179, E180], [B3], H9⟩ (by generalize r5 = qp0; cases qp0 <;> kernel_rfl) ?_
  refine d_take ⟨[E2, (E5 r5), E6, (E106 r5), E107, E108, E112, E109, E110, E111, E113, E115, E116, (E117 r5), E118, E119, E120, E121, E127, E122, E123, E124, E125, E126, E128, E174, E175, E176, E177, E178, E179, E180, E181], [B3], H9⟩ (by generalize r5 = qp0; cases qp0 <;> kernel_rfl) ?_
  refine d_take ⟨[E2, (E5 r5), E6, (E106 r5), E107, E108, E112, E109, E110, E111, E113, E115, E116, (E117 r5), E118, E119, E120, E121, E127, E122, E123, E124, E125, E126, E128, E174, E175, E176, E177, E178, E179, E180, E181, E182], [B3], H9⟩ (by generalize r5 = qp0; cases qp0 <;> kernel_rfl) ?_
  refine d_take ⟨[E2, (E5 r5), E6, (E106 r5), E107, E108, E112, E109, E110, E111, E113, E115, E116, (E117 r5), E118, E119, E120, E121, E127, E122, E123, E124, E125, E126, E128, E174, E175, E176, E177, E178, E179, E180, E181, E182, E183], [B3], H9⟩ (by generalize r5 = qp0; cases qp0 <;> kernel_rfl) ?_
  refine d_take ⟨[E2, (E5 r5), E6, (E106 r5), E107, E108, E112, E109, E110, E111, E113, E115, E116, (E117 r5), E118, E119, E120, E121, E127, E122, E123, E124, E125, E126, E128, E174, E175, E176, E177, E178, E179, E180, E181, E182, E183, E184], [B3], H9⟩ (by generalize r5 = qp0; cases qp0 <;> kernel_rfl) ?_
  refine d_take ⟨[E2, (E5 r5), E6, (E106 r5), E107, E108, E112, E109, E110, E111, E113, E115, E116, (E117 r5), E118, E119, E120, E121, E127, E122, E123, E124, E125, E126, E128, E174, E175, E176, E177, E178, E179, E180, E181, E182, E183, E184, E185], [B3], H9⟩ (by generalize r5 = qp0; cases qp0 <;> kernel_rfl) ?_
  refine d_take ⟨[E2, (E5 r5), E6, (E106 r5), E107, E108, E112, E109, E110, E111, E113, E115, E116, (E117 r5), E118, E119, E120, E121, E127, E122, E123, E124, E125, E126, E128, E174, E175, E176, E177, E178, E179, E180, E181, E182, E183, E184, E185, E186], [B3], H9⟩ (by generalize r5 = qp0; cases qp0 <;> kernel_rfl) ?_
  refine d_last ⟨[E2, (E5 r5), E6, (E106 r5), E107, E108, E112, E109, E110, E111, E113, E115, E116, (E117 r5), E118, E119, E120, E121, E127, E122, E123, E124, E125, E126, E128, E174, E175, E176, E177, E178, E179, E180, E181, E187, E182, E183, E184, E185, E186], [B3], H9⟩ (by generalize r5 = qp0; cases qp0 <;> kernel_rfl) ?_
  refine d_last ⟨[E2, (E5 r5), E6, (E106 r5), E107, E108, E112, E109, E110, E111, E113, E115, E116, (E117 r5), E118, E119, E120, E121, E127, E122, E123, E124, E125, E126, E128, E174, E175, E176, E177, E178, E179, E180, E181, E187, E182, E183, E184, E185, E186, E188], [B3], H9⟩ (by generalize r5 = qp0; cases qp0 <;> kernel_rfl) ?_
  refine d_take ⟨[E2, (E5 r5), E6, (E106 r5), E107, E108, E112, E109, E110, E111, E113, E115, E116, (E117 r5), E118, E119, E120, E121, E127, E122, E123, E124, E125, E126, E128, E174, E175, E176, E177, E178, E179, E180, E181, E187, E182, E183, E184, E185, E186, E188, E189], [B3], H9⟩ (by generalize r5 = qp0; cases qp0 <;> kernel_rfl) ?_
  refine d_take ⟨[E2, (E5 r5), E6, (E106 r5), E107, E108, E112, E109, E110, E111, E113, E115, E116, (E117 r5), E118, E119, E120, E121, E127, E122, E123, E124, E125, E126, E128, E174, E175, E176, E177, E178, E179, E180, E181, E187, E182, E183, E184, E185, E186, E188, E189, E162], [B3], H9⟩ (by generalize r5 = qp0; cases qp0 <;> kernel_rfl) ?_
  refine d_take ⟨[E2, (E5 r5), E6, (E106 r5), E107, E108, E112, E109, E110, E111, E113, E115, E116, (E117 r5), E118, E119, E120, E121, E127, E122, E123, E124, E125, E126, E128, E174, E175, E176, E177, E178, E179, E180, E181, E187, E182, E183, E184, E185, E186, E188, E189, E162, E163], [B3], H9⟩ (by generalize r5 = qp0; cases qp0 <;> kernel_rfl) ?_
  refine d_take ⟨[E2, (E5 r5), E6, (E106 r5), E107, E108, E112, E109, E110, E111, E113, E115, E116, (E117 r5), E118, E119, E120, E121, E127, E122, E123, E124, E125, E126, E128, E174, E175, E176, E177, E178, E179, E180, E181, E187, E182, E183, E184, E185, E186, E188, E189, E162, E163, E164], [B3], H9⟩ (by generalize r5 = qp0; cases qp0 <;> kernel_rfl) ?_
  refine d_take ⟨[E2, (E5 r5), E6, (E106 r5), E107, E108, E112, E109, E110, E111, E113, E115, E116, (E117 r5), E118, E119, E120, E121, E127, E122, E123, E124, E125, E126, E128, E174, E175, E176, E177, E178, E179, E180, E181, E187, E182, E183, E184, E185, E186, E188, E189, E162, E163, E164, E165], [B3], H9⟩ (by generalize r5 = qp0; cases qp0 <;> kernel_rfl) ?_
  refine d_take ⟨[E2, (E5 r5), E6, (E106 r5), E107, E108, E112, E109, E110, E111, E113, E115, E116, (E117 r5), E118, E119, E120, E121, E127, E122, E123, E124, E125, E126, E128, E174, E175, E176, E177, E178, E179, E180, E181, E187, E182, E183, E184, E185, E186, E188, E189, E162, E163, E164, E165, E166], [B3], H9⟩ (by generalize r5 = qp0; cases qp0 <;> kernel_rfl) ?_
  refine d_take ⟨[E2, (E5 r5), E6, (E106 r5), E107, E108, E112, E109, E110, E111, E113, E115, E116, (E117 r5), E118, E119, E120, E121, E127, E122, E123, E124, E125, E126, E128, E174, E175, E176, E177, E178, E179, E180, E181, E187, E182, E183, E184, E185, E186, E188, E189, E162, E163, E164, E165, E166, E167], [B3], H9⟩ (by generalize r5 = qp0; cases qp0 <;> kernel_rfl) ?_
  refine d_take ⟨[E2, (E5 r5), E6, (E106 r5), E107, E108, E112, E109, E110, E111, E113, E115, E116, (E117 r5), E118, E119, E120, E121, E127, E122, E123, E124, E125, E126, E128, E174, E175, E176, E177, E178, E179, E180, E181, E187, E182, E183, E184, E185, E186, E188, E189, E162, E163, E164, E165, E166, E167, E168], [B3], H9⟩ (by generalize r5 = qp0; cases qp0 <;> kernel_rfl) ?_
  refine d_take ⟨[E2, (E5 r5), E6, (E106 r5), E107, E108, E112, E109, E110, E111, E113, E115, E116, (E117 r5), E118, E119, E120, E121, E127, E122, E123, E124, E125, E126, E128, E174, E175, E176, E177, E178, E179, E180, E181, E187, E182, E183, E184, E185, E186, E188, E189, E162, E163, E164, E165, E166, E167, E168, E169], [B3], H9⟩ (by generalize r5 = qp0; cases qp0 <;> kernel_rfl) ?_
  refine d_last ⟨[E2, (E5 r5), E6, (E106 r5), E107, E108, E112, E109, E110, E111, E113, E115, E116, (E117 r5), E118, E119, E120, E121, E127, E122, E123, E124, E125, E126, E128, E174, E175, E176, E177, E178, E179, E180, E181, E187, E182, E183, E184, E185, E186, E188, E189, E162, E163, E164, E165, E166, E170, E167, E168, E169], [B3], H9⟩ (by generalize r5 = qp0; cases qp0 <;> kernel_rfl) ?_
  refine d_last ⟨[E2, (E5 r5), E6, (E106 r5), E107, E108, E112, E109, E110, E111, E113, E115, E116, (E117 r5), E118, E119, E120, E121, E127, E122, E123, E124, E125, E126, E128, E174, E175, E176, E177, E178, E179, E180, E181, E187, E182, E183, E184, E185, E186, E188, E189, E162, E163, E164, E165, E166, E170, E167, E168, E169, E171], [B3], H9⟩ (by generalize r5 = qp0; cases qp0 <;> kernel_rfl) ?_
  refine d_take ⟨[E2, (E5 r5), E6, (E106 r5), E107, E108, E112, E109, E110, E111, E113, E115, E116, (E117 r5), E118, E119, E120, E121, E127, E122, E123, E124, E125, E126, E128, E174, E175, E176, E177, E178, E179, E180, E181, E187, E182, E183, E184, E185, E186, E188, E189, E162, E163, E164, E165, E166, E170, E167, E168, E169, E171, E172], [B3], H9⟩ (by generalize r5 = qp0; cases qp0 <;> kernel_rfl) ?_
  refine d_take ⟨[E2, (E5 r5), E6, (E106 r5), E107, E108, E112, E109, E110, E111, E113, E115, E116, (E117 r5), E118, E119, E120, E121, E127, E122, E123, E124, E125, E126, E128, E174, E175, E176, E177, E178, E179, E180, E181, E187, E182, E183, E184, E185, E186, E188, E189, E162, E163, E164, E165, E166, E170, E167, E168, E169, E171, E172, E173], [B3], H9⟩ (by generalize r5 = qp0; cases qp0 <;> kernel_rfl) ?_
  refine d_take ⟨[E2, E4, (E5 r5), E6, (E106 r5), E107, E108, E112, E109, E110, E111, E113, E115, E116, (E117 r5), E118, E119, E120, E121, E127, E122, E123, E124, E125, E126, E128, E174, E175, E176, E177, E178, E179, E180, E181, E187, E182, E183, E184, E185, E186, E188, E189, E162, E163, E164, E165, E166, E170, E167, E168, E169, E171, E172, E173], [B3], H9⟩ (by generalize r5 = qp0; cases qp0 <;> kernel_rfl) ?_
  cases hB50
  exact d_end (by kernel_rfl)
  refine d_eq (congrArg (fun q => (⟨[E2, (E5 r5), E6, (E106 r5), E107, E108, E112, E109, E110, E111, E113, (84, .one .top (.bool q)), (85, .one .top (.bool q))], [B3], H9⟩ : St)) h34) ?_
  refine d_take ⟨[E2, (E5 r5), E6, (E106 r5), E107, E108, E112, E109, E110, E111, E113, E190, E191, E192], [B3], H9⟩ (by generalize r5 = qp0; cases qp0 <;> kernel_rfl) ?_
  refine d_take ⟨[E2, (E5 r5), E6, (E106 r5), E107, E108, E112, E109, E110, E111, E113, E190, E191, E192, E193], [B3], H9⟩ (by generalize r5 = qp0; cases qp0 <;> kernel_rfl) ?_
  refine d_take ⟨[E2, (E5 r5), E6, (E106 r5), E107, E108, E112, E109, E110, E111, E113, E190, E191, E192, E193, E194], [B3], H9⟩ (by generalize r5 = qp0; cases qp0 <;> kernel_rfl) ?_
  refine d_take ⟨[E2, (E5 r5), E6, (E106 r5), E107, E108, E112, E109, E110, E111, E113, E190, E191, E192, E193, E194, E195], [B3], H9⟩ (by generalize r5 = qp0; cases qp0 <;> kernel_rfl) ?_
  refine d_take ⟨[E2, (E5 r5), E6, (E106 r5), E107, E108, E112, E109, E110, E111, E113, E190, E191, E192, E193, E194, E195, E196], [B3], H9⟩ (by generalize r5 = qp0; cases qp0 <;> kernel_rfl) ?_
  refine d_take ⟨[E2, (E5 r5), E6, (E106 r5), E107, E108, E112, E109, E110, E111, E113, E190, E191, E192, E193, E194, E195, E196, E197], [B3], H9⟩ (by generalize r5 = qp0; cases qp0 <;> kernel_rfl) ?_
  refine d_take ⟨[E2, (E5 r5), E6, (E106 r5), E107, E108, E112, E109, E110, E111, E113, E190, E191, E192, E193, E194, E195, E196, E197, E198], [B3], H9⟩ (by generalize r5 = qp0; cases qp0 <;> kernel_rfl) ?_
  refine d_take ⟨[E2, (E5 r5), E6, (E106 r5), E107, E108, E112, E109, E110, E111, E113, E190, E191, E192, E193, E194, E195, E196, E197, E198, E199], [B3], H9⟩ (by generalize r5 = qp0; cases qp0 <;> kernel_rfl) ?_
  refine d_take ⟨[E2, (E5 r5), E6, (E106 r5), E107, E108, E112, E109, E110, E111, E113, E190, E191, E192, E193, E194, E195, E196, E197, E198, E199, E200], [B3], H9⟩ (by generalize r5 = qp0; cases qp0 <;> kernel_rfl) ?_
  refine d_take ⟨[E2, (E5 r5), E6, (E106 r5), E107, E108, E112, E109, E110, E111, E113, E190, E191, E192, E193, E194, E195, E196, E197, E198, E199, E200, E201], [B3], H9⟩ (by generalize r5 = qp0; cases qp0 <;> kernel_rfl) ?_
  refine d_last ⟨[E2, (E5 r5), E6, (E106 r5), E107, E108, E112, E109, E110, E111, E113, E190, E191, E192, E193, E194, E195, E196, E202, E197, E198, E199, E200, E201], [B3], H9⟩ (by generalize r5 = qp0; cases qp0 <;> kernel_rfl) ?_
  refine d_last ⟨[E2, (E5 r5), E6, (E106 r5), E107, E108, E112, E109, E110, E111, E113, E190, E191, E192, E193, E194, E195, E196, E202, E197, E198, E199, E200, E201, E203], [B3], H9⟩ (by generalize r5 = qp0; cases qp0 <;> kernel_rfl) ?_
  refine d_take ⟨[E2, (E5 r5), E6, (E106 r5), E107, E108, E112, E109, E110, E111, E113, E190, E191, E192, E193, E194, E195, E196, E202, E197, E198, E199, E200, E201, E203, E204], [B3], H9⟩ (by generalize r5 = qp0; cases qp0 <;> kernel_rfl) ?_
  refine d_take ⟨[E2, (E5 r5), E6, (E106 r5), E107, E108, E112, E109, E110, E111, E113, E190, E191, E192, E193, E194, E195, E196, E202, E197, E198, E199, E200, E201, E203, E204, E175], [B3], H9⟩ (by generalize r5 = qp0; cases qp0 <;> kernel_rfl) ?_
  refine d_take ⟨[E2, (E5 r5), E6, (E106 r5), E107, E108, E112, E109, E110, E111, E113, E190, E191, E192, E193, E194, E195, E196, E202, E197, E198, E199, E200, E201, E203, E204, E175, E176], [B3], H9⟩ (by generalize r5 = qp0; cases qp0 <;> kernel_rfl) ?_
  refine d_take ⟨[E2, (E5 r5), E6, (E106 r5), E107, E108, E112, E109, E110, E111, E113, E190, E191, E192, E193, E194, E195, E196, E202, E197, E198, E199, E200, E201, E203, E204, E175, E176, E177], [B3], H9⟩ (by generalize r5 = qp0; cases qp0 <;> kernel_rfl) ?_
  refine d_take ⟨[E2, (E5 r5), E6, (E106 r5), E107, E108, E112, E109, E110, E111, E113, E190, E191, E192, E193, E194, E195, E196, E202, E197, E198, E199, E200, E201, E203, E204, E175, E176, E177, E178], [B3], H9⟩ (by generalize r5 = qp0; cases qp0 <;> kernel_rfl) ?_
  refine d_take ⟨[E2, (E5 r5), E6, (E106 r5), E107, E108, E112, E109, E110, E111, E113, E190, E191, E192, E193, E194, E195, E196, E202, E197, E198, E199, E200, E201, E203, E204, E175, E176, E177, E178, E179], [B3], H9⟩ (by generalize r5 = qp0; cases qp0 <;> kernel_rfl) ?_
  refine d_take ⟨[E2, (E5 r5), E6, (E106 r5), E107, E108, E112, E109, E110, E111, E113, E190, E191, E192, E193, E194, E195, E196, E202, E197, E198, E199, E200, E201, E203, E204, E175, E176, E177, E178, E179, E180], [B3], H9⟩ (by generalize r5 = qp0; cases qp0 <;> kernel_rfl) ?_
  refine d_take ⟨[E2, (E5 r5), E6, (E106 r5), E107, E108, E112, E109, E110, E111, E113, E190, E191, E192, E193, E194, E195, E196, E202, E197, E198, E199, E200, E201, E203, E204, E175, E176, E177, E178, E179, E180, E181], [B3], H9⟩ (by generalize r5 = qp0; cases qp0 <;> kernel_rfl) ?_
  refine d_take ⟨[E2, (E5 r5), E6, (E106 r5), E107, E108, E112, E109, E110, E111, E113, E190, E191, E192, E193, E194, E195, E196, E202, E197, E198, E199, E200, E201, E203, E204, E175, E176, E177, E178, E179, E180, E181, E182], [B3], H9⟩ (by generalize r5 = qp0; cases qp0 <;> kernel_rfl) ?_
  refine d_take ⟨[E2, (E5 r5), E6, (E106 r5), E107, E108, E112, E109, E110, E111, E113, E190, E191, E192, E193, E194, E195, E196, E202, E197, E198, E199, E200, E201, E203, E204, E175, E176, E177, E178, E179, E180, E181, E182, E183], [B3], H9⟩ (by generalize r5 = qp0; cases qp0 <;> kernel_rfl) ?_
  refine d_take ⟨[E2, (E5 r5), E6, (E106 r5), E107, E108, E112, E109, E110, E111, E113, E190, E191, E192, E193, E194, E195, E196, E202, E197, E198, E199, E200, E201, E203, E204, E175, E176, E177, E178, E179, E180, E181, E182, E183, E184], [B3], H9⟩ (by generalize r5 = qp0; cases qp0 <;> kernel_rfl) ?_
  refine d_take ⟨[E2, (E5 r5), E6, (E106 r5), E107, E108, E112, E109, E110, E111, E113, E190, E191, E192, E193, E194, E195, E196, E202, E197, E198, E199, E200, E201, E203, E204, E175, E176, E177, E178, E179, E180, E181, E182, E183, E184, E185], [B3], H9⟩ (by generalize r5 = qp0; cases qp0 <;> kernel_rfl) ?_
  refine d_take ⟨[E2, (E5 r5), E6, (E106 r5), E107, E108, E112, E109, E110, E111, E113, E190, E191, E192, E193, E194, E195, E196, E202, E197, E198, E199, E200, E201, E203, E204, E175, E176, E177, E178, E179, E180, E181, E182, E183, E184, E185, E186], [B3], H9⟩ (by generalize r5 = qp0; cases qp0 <;> kernel_rfl) ?_
  refine d_last ⟨[E2, (E5 r5), E6, (E106 r5), E107, E108, E112, E109, E110, E111, E113, E190, E191, E192, E193, E194, E195, E196, E202, E197, E198, E199, E200, E201, E203, E204, E175, E176, E177, E178, E179, E180, E181, E187, E182, E183, E184, E185, E186], [B3], H9⟩ (by generalize r5 = qp0; cases qp0 <;> kernel_rfl) ?_
  refine d_last ⟨[E2, (E5 r5), E6, (E106 r5), E107, E108, E112, E109, E110, E111, E113, E190, E191, E192, E193, E194, E195, E196, E202, E197, E198, E199, E200, E201, E203, E204, E175, E176, E177, E178, E179, E180, E181, E187, E182, E183, E184, E185, E186, E188], [B3], H9⟩ (by generalize r5 = qp0; cases qp0 <;> kernel_rfl) ?_
  refine d_take ⟨[E2, (E5 r5), E6, (E106 r5), E107, E108, E112, E109, E110, E111, E113, E190, E191, E192, E193, E194, E195, E196, E202, E197, E198, E199, E200, E201, E203, E204, E175, E176, E177, E178, E179, E180, E181, E187, E182, E183, E184, E185, E186, E188, E189], [B3], H9⟩ (by generalize r5 = qp0; cases qp0 <;> kernel_rfl) ?_
  refine d_take ⟨[E2, (E5 r5), E6, (E106 r5), E107, E108, E112, E109, E110, E111, E113, E190, E191, E192, E193, E194, E195, E196, E202, E197, E198, E199, E200, E201, E203, E204, E175, E176, E177, E178, E179, E180, E181, E187, E182, E183, E184, E185, E186, E188, E189, E162], [B3], H9⟩ (by generalize r5 = qp0; cases qp0 <;> kernel_rfl) ?_
  refine d_take ⟨[E2, (E5 r5), E6, (E106 r5), E107, E108, E112, E109, E110, E111, E113, E190, E191, E192, E193, E194, E195, E196, E202, E197, E198, E199, E200, E201, E203, E204, E175, E176, E177, E178, E179, E180, E181, E187, E182, E183, E184, E185, E186, E188, E189, E162, E163], [B3], H9⟩ (by generalize r5 = qp0; cases qp0 <;> kernel_rfl) ?_
  refine d_take ⟨[E2, (E5 r5), E6, (E106 r5), E107, E108, E112, E109, E110, E111, E113, E190, E191, E192, E193, E194, E195, E196, E202, E197, E198, E199, E200, E201, E203, E204, E175, E176, E177, E178, E179, E180, E181, E187, E182, E183, E184, E185, E186, E188, E189, E162, E163, E164], [B3], H9⟩ (by generalize r5 = qp0; cases qp0 <;> kernel_rfl) ?_
  refine d_take ⟨[E2, (E5 r5), E6, (E106 r5), E107, E108, E112, E109, E110, E111, E113, E190, E191, E192, E193, E194, E195, E196, E202, E197, E198, E199, E200, E201, E203, E204, E175, E176, E177, E178, E179, E180, E181, E187, E182, E183, E184, E185, E186, E188, E189, E162, E163, E164, E165], [B3], H9⟩ (by generalize r5 = qp0; cases qp0 <;> kernel_rfl) ?_
  refine d_take ⟨[E2, (E5 r5), E6, (E106 r5), E107, E108, E112, E109, E110, E111, E113, E190, E191, E192, E193, E194, E195, E196, E202, E197, E198, E199, E200, E201, E203, E204, E175, E176, E177, E178, E179, E180, E181, E187, E182, E183, E184, E185, E186, E188, E189, E162, E163, E164, E165, E166], [B3], H9⟩ (by generalize r5 = qp0; cases qp0 <;> kernel_rfl) ?_
  refine d_take ⟨[E2, (E5 r5), E6, (E106 r5), E107, E108, E112, E109, E110, E111, E113, E190, E191, E192, E193, E194, E195, E196, E202, E197, E198, E199, E200, E201, E203, E204, E175, E176, E177, E178, E179, E180, E181, E187, E182, E183, E184, E185, E186, E188, E189, E162, E163, E164, E165, E166, E167], [B3], H9⟩ (by generalize r5 = qp0; cases qp0 <;> kernel_rfl) ?_
  refine d_take ⟨[E2, (E5 r5), E6, (E106 r5), E107, E108, E112, E109, E110, E111, E113, E190, E191, E192, E193, E194, E195, E196, E202, E197, E198, E199, E200, E201, E203, E204, E175, E176, E177, E178, E179, E180, E181, E187, E182, E183, E184, E185, E186, E188, E189, E162, E163, E164, E165, E166, E167, E168], [B3], H9⟩ (by generalize r5 = qp0; cases qp0 <;> kernel_rfl) ?_
  refine d_take ⟨[E2, (E5 r5), E6, (E106 r5), E107, E108, E112, E109, E110, E111, E113, E190, E191, E192, E193, E194, E195, E196, E202, E197, E198, E199, E200, E201, E203, E204, E175, E176, E177, E178, E179, E180, E181, E187, E182, E183, E184, E185, E186, E188, E189, E162, E163, E164, E165, E166, E167, E168, E169], [B3], H9⟩ (by generalize r5 = qp0; cases qp0 <;> kernel_rfl) ?_
  refine d_last ⟨[E2, (E5 r5), E6, (E106 r5), E107, E108, E112, E109, E110, E111, E113, E190, E191, E192, E193, E194, E195, E196, E202, E197, E198, E199, E200, E201, E203, E204, E175, E176, E177, E178, E179, E180, E181, E187, E182, E183, E184, E185, E186, E188, E189, E162, E163, E164, E165, E166, E170, E167, E168, E169], [B3], H9⟩ (by generalize r5 = qp0; cases qp0 <;> kernel_rfl) ?_
  refine d_last ⟨[E2, (E5 r5), E6, (E106 r5), E107, E108, E112, E109, E110, E111, E113, E190, E191, E192, E193, E194, E195, E196, E202, E197, E198, E199, E200, E201, E203, E204, E175, E176, E177, E178, E179, E180, E181, E187, E182, E183, E184, E185, E186, E188, E189, E162, E163, E164, E165, E166, E170, E167, E168, E169, E171], [B3], H9⟩ (by generalize r5 = qp0; cases qp0 <;> kernel_rfl) ?_
  refine d_take ⟨[E2, (E5 r5), E6, (E106 r5), E107, E108, E112, E109, E110, E111, E113, E190, E191, E192, E193, E194, E195, E196, E202, E197, E198, E199, E200, E201, E203, E204, E175, E176, E177, E178, E179, E180, E181, E187, E182, E183, E184, E185, E186, E188, E189, E162, E163, E164, E165, E166, E170, E167, E168, E169, E171, E172], [B3], H9⟩ (by generalize r5 = qp0; cases qp0 <;> kernel_rfl) ?_
  refine d_take ⟨[E2, (E5 r5), E6, (E106 r5), E107, E108, E112, E109, E110, E111, E113, E190, E191, E192, E193, E194, E195, E196, E202, E197, E198, E199, E200, E201, E203, E204, E175, E176, E177, E178, E179, E180, E181, E187, E182, E183, E184, E185, E186, E188, E189, E162, E163, E164, E165, E166, E170, E167, E168, E169, E171, E172, E173], [B3], H9⟩ (by generalize r5 = qp0; cases qp0 <;> kernel_rfl) ?_
  refine d_take ⟨[E2, E4, (E5 r5), E6, (E106 r5), E107, E108, E112, E109, E110, E111, E113, E190, E191, E192, E193, E194, E195, E196, E202, E197, E198, E199, E200, E201, E203, E204, E175, E176, E177, E178, E179, E180, E181, E187, E182, E183, E184, E185, E186, E188, E189, E162, E163, E164, E165, E166, E170, E167, E168, E169, E171, E172, E173], [B3], H9⟩ (by generalize r5 = qp0; cases qp0 <;> kernel_rfl) ?_
  cases hB50
  exact d_end (by kernel_rfl)
  refine w_ret ?_
  obtain ⟨e0, e1⟩ := some2_inv hF
  subst e0
  subst e1
  exact fin_imp (v := .one .top (.bool w49)) (by kernel_rfl) (by kernel_rfl) (by kernel_rfl)
end Go.Proofs.Abs
