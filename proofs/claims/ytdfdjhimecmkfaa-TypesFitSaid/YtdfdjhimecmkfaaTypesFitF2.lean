/- The law TypesFit: whatever the input, it answers true. No conditions. (Part TypesFitF2 of its proof.) -/
import Derived.Test.YtdfdjhimecmkfaaTypesFitF1
set_option linter.unusedVariables false
set_option linter.unusedSimpArgs false
set_option linter.unusedSectionVars false
/- Printed by gen (walk.py). -/
namespace Go.Proofs.Abs
open Go Go.Proofs
set_option linter.unusedVariables false
set_option maxRecDepth 100000
set_option maxHeartbeats 0
noncomputable def law09_TypesFit_L2 (r15 : T_types_Type) (H9 : Heap) (r5 : Ptr) (a19 : Int) (a20 : Int) : Option ((Int × Int) ⊕ ((Int) ⊕ Unit)) :=
  if (decide (a20 < (r15.Fields_.length : Int))) = true then (bind1 (gi r15.Fields_ a20) fun x22 =>
  bind1 (if (x22.Offset_ != a19) = true then (some true) else (if (decide (x22.Type_ < 0)) = true then (some true) else (bind1 (types_Table_Len H9 r5) fun r26 =>
  some (decide (x22.Type_ ≥ r26))))) fun w28 =>
  if w28 = true then (some (Sum.inr (Sum.inr ())))
  else (bind1 (types_Table_Get H9 r5 x22.Type_) fun r31 =>
  some (Sum.inl ((IntKind.wrap .i64 (a19 + r31.Size_)), (IntKind.wrap .i64 (a20 + 1))))))
  else (some (Sum.inr (Sum.inl a19)))
noncomputable def law09_TypesFit_L1 (H9 : Heap) (r5 : Ptr) (a11 : Int) : Option ((Int) ⊕ (Unit ⊕ Unit)) :=
  bind1 (types_Table_Len H9 r5) fun r12 =>
  if (decide (a11 < r12)) = true then (bind1 (types_Table_Get H9 r5 a11) fun r15 =>
  if ((decide (r15.Size_ < 0)) || (decide (r15.Size_ > 16384))) = true then (some (Sum.inr (Sum.inr ())))
  else (bind1 (loopO (fun (x : (Int × Int)) => law09_TypesFit_L2 r15 H9 r5 x.1 x.2) (0, 0)) (sum2 (fun b35 =>
  bind1 (if (r15.Kind_ == 6) = true then (if (b35 != r15.Size_) = true then (some true) else (if (r15.Kind_ == 5) = true then (bind1 (types_Table_Get H9 r5 r15.Base_) fun r39 =>
  some (r15.Size_ != (IntKind.wrap .i64 (r15.Len_ * r39.Size_)))) else (some false))) else (if (r15.Kind_ == 5) = true then (bind1 (types_Table_Get H9 r5 r15.Base_) fun r42 =>
  some (r15.Size_ != (IntKind.wrap .i64 (r15.Len_ * r42.Size_)))) else (some false))) fun w44 =>
  if w44 = true then (some (Sum.inr (Sum.inr ())))
  else (some (Sum.inl (IntKind.wrap .i64 (a11 + 1))))) (fun (_ : Unit) =>
  some (Sum.inr (Sum.inr ()))))))
  else (some (Sum.inr (Sum.inl ())))
noncomputable def law09_TypesFit (H : Heap) (p0 : (List T_law09_Op)) : Option (Heap × Bool) :=
  bind2 (law09_awake H) fun H3 r1 =>
  if (!r1) = true then (some (H3, false))
  else (bind4 (law09_played H3 p0) fun H9 r5 r6 r7 =>
  if (!r7) = true then (some (H9, false))
  else (bind1 (loopO (fun (x : (Int)) => law09_TypesFit_L1 H9 r5 x) 0) (sum2 (fun (_ : Unit) =>
  some (H9, true)) (fun (_ : Unit) =>
  some (H9, false)))))
theorem ok_law09_TypesFit (H : Heap) {p0 : (List T_law09_Op)} {ra : Bool} {Hr : Heap} (hF : law09_TypesFit H p0 = some (Hr, ra)) : evS X 7 [.one .ro (.sl 4 (List.map e_law09_Op p0))] H = some (.one .top (.bool ra), Hr) := by
  let E1 : Nat × TV := (0, .one .ro (.sl 4 (List.map e_law09_Op p0)))
  let E2 : Nat × TV := (2, .one .top (.bool false))
  let E4 : Nat × TV := (14, .one .ro (.sl 4 (List.map e_law09_Op p0)))
  let E10 : Nat × TV := (7, .one .top (.loc 7 0))
  let E14 : Nat × TV := (30, .one .top (.loc 7 3))
  let E20 : Nat × TV := (39, .one .top (.loc 7 5))
  let E23 : Nat × TV := (10, .one .top (.loc 10 0))
  let E25 : Nat × TV := (45, .one .top (.loc 7 5))
  let E29 : Nat × TV := (50, .one .top (.loc 10 2))
  let E33 : Nat × TV := (53, .one .top (.bool true))
  let E34 : Nat × TV := (54, .one .top (.bool true))
  let E35 : Nat × TV := (55, .tup [])
  let E36 : Nat × TV := (56, .tup [])
  let E37 : Nat × TV := (57, .tup [])
  let E38 : Nat × TV := (58, .one .top (.bool true))
  let E39 : Nat × TV := (59, .one .top (.bool true))
  let E40 : Nat × TV := (60, .tup [])
  let E41 : Nat × TV := (61, .tup [])
  let E42 : Nat × TV := (62, .tup [])
  let E43 : Nat × TV := (63, .tup [])
  let E44 : Nat × TV := (64, .tup [])
  let E45 : Nat × TV := (53, .one .top (.bool false))
  let E46 : Nat × TV := (54, .one .top (.bool false))
  let E47 : Nat × TV := (55, .one .top (.loc 10 1))
  let E51 : Nat × TV := (57, .one .top (.bool true))
  let E52 : Nat × TV := (57, .one .top (.bool false))
  let E53 : Nat × TV := (58, .one .top (.bool false))
  let E54 : Nat × TV := (59, .one .top (.bool false))
  let E55 : Nat × TV := (60, .one .top (.loc 10 1))
  let E63 : Nat × TV := (68, .one .top (.loc 10 1))
  let E66 : Nat × TV := (73, .one .top (.loc 7 0))
  let E69 : Nat × TV := (75, .one .top (.bool true))
  let E70 : Nat × TV := (76, .one .top (.bool true))
  let E72 : Nat × TV := (78, .one .top (.loc 7 3))
  let E76 : Nat × TV := (80, .one .top (.bool true))
  let E77 : Nat × TV := (81, .one .top (.bool true))
  let E78 : Nat × TV := (82, .one .top (.bool true))
  let E79 : Nat × TV := (83, .tup [])
  let E80 : Nat × TV := (84, .tup [])
  let E81 : Nat × TV := (85, .tup [])
  let E82 : Nat × TV := (86, .tup [])
  let E83 : Nat × TV := (87, .tup [])
  let E84 : Nat × TV := (88, .tup [])
  let E85 : Nat × TV := (89, .tup [])
  let E86 : Nat × TV := (90, .tup [])
  let E87 : Nat × TV := (91, .tup [])
  let E88 : Nat × TV := (92, .tup [])
  let E89 : Nat × TV := (93, .tup [])
  let E90 : Nat × TV := (94, .tup [])
  let E91 : Nat × TV := (95, .tup [])
  let E92 : Nat × TV := (96, .tup [])
  let E93 : Nat × TV := (97, .tup [])
  let E94 : Nat × TV := (80, .one .top (.bool false))
  let E95 : Nat × TV := (81, .one .top (.bool false))
  let E96 : Nat × TV := (82, .one .top (.bool false))
  let E97 : Nat × TV := (83, .one .top (.loc 7 0))
  let E101 : Nat × TV := (85, .one .top (.bool true))
  let E102 : Nat × TV := (86, .one .top (.bool true))
  let E103 : Nat × TV := (87, .one .top (.loc 7 3))
  let E105 : Nat × TV := (89, .one .top (.loc 7 1))
  let E108 : Nat × TV := (92, .one .top (.loc 7 2))
  let E115 : Nat × TV := (85, .one .top (.bool false))
  let E116 : Nat × TV := (86, .one .top (.bool false))
  let E117 : Nat × TV := (98, .one .top (.bool false))
  let E118 : Nat × TV := (75, .one .top (.bool false))
  let E119 : Nat × TV := (76, .one .top (.bool false))
  let E120 : Nat × TV := (77, .tup [])
  let E121 : Nat × TV := (78, .tup [])
  let E122 : Nat × TV := (79, .tup [])
  let E123 : Nat × TV := (80, .tup [])
  let S129 : St := ⟨[E1], [], H⟩
  refine w_fun Try.func7 rfl (by kernel_rfl) false (by kernel_rfl) (s0 := S129) (by kernel_rfl) ?_
  unfold law09_TypesFit at hF
  refine w_seq ?_
  refine w_reg S129 (by kernel_rfl) ?_
  refine w_seq ?_
  refine w_seq ?_
  obtain ⟨H3, r1, c2, hF⟩ := bind2_inv hF
  refine w_regO ⟨[E1, (12, .one .top (.bool (!r1)))], [], H3⟩ ?_ ?_
  refine o_one ⟨[E1, (11, .one .top (.bool r1))], [], H3⟩ (st_call (d := (some 11)) (fz := false) (pure := false) (own := false) S129 (ok_law09_awake H c2) (by kernel_rfl) (by kernel_rfl)) ?_
  refine o_run 1 ⟨[E1, (11, .one .top (.bool r1)), (12, .one .top (.bool (!r1)))], [], H3⟩ (by kernel_rfl) (by kernel_rfl) ?_
  exact o_end (by kernel_rfl) (by kernel_rfl)
  rcases if_inv hF with ⟨h4, hF⟩ | ⟨h4, hF⟩
  refine w_cT (m := .top) h4 (s1 := (⟨[], [], H3⟩ : St)) (by kernel_rfl) (by kernel_rfl) ?_
  refine w_seq ?_
  refine w_reg ⟨[E2], [], H3⟩ (by kernel_rfl) ?_
  refine w_ret ?_
  obtain ⟨e0, e1⟩ := some2_inv hF
  subst e0
  subst e1
  exact fin_imp (v := .one .top (.bool false)) (by kernel_rfl) (by kernel_rfl) (by kernel_rfl)
  refine w_cF (m := .top) h4 (s1 := (⟨[E1], [], H3⟩ : St)) (by kernel_rfl) (by kernel_rfl) ?_
  refine w_skip ?_
  refine w_seq ?_
  obtain ⟨H9, r5, r6, r7, c8, hF⟩ := bind4_inv hF
  let E3 : Ptr → Nat × TV := fun z0 => (3, .one .top (Ptr.av z0))
  let E5 : Ptr → Nat × TV := fun z0 => (15, .tup [.one .top (Ptr.av z0), .one (.own 0) (.sl 6 (List.map e_ref09_Type r6)), .one .top (.bool r7)])
  let E9 : Ptr → Nat × TV := fun z0 => (22, .one .top (Ptr.av z0))
  let E12 : Ptr → Nat × TV := fun z0 => (27, .one .top (Ptr.av z0))
  let E57 : Ptr → Nat × TV := fun z0 => (62, .one .top (Ptr.av z0))
  let E62 : Ptr → Nat × TV := fun z0 => (67, .one .top (Ptr.av z0))
  let E107 : Ptr → Nat × TV := fun z0 => (91, .one .top (Ptr.av z0))
  let S130 : St := ⟨[], [], H9⟩
  let S131 : St := ⟨[E2], [], H9⟩
  refine w_regO ⟨[(E3 r5), (5, .one .top (.bool r7))], [], H9⟩ ?_ ?_
  refine o_run 1 ⟨[E1, E4], [], H3⟩ (by kernel_rfl) (by kernel_rfl) ?_
  refine o_one ⟨[E1, E4, (E5 r5)], [], H9⟩ (st_call (d := (some 15)) (fz := false) (pure := false) (own := false) (⟨[E1, E4], [], H3⟩ : St) (ok_law09_played H3 c8) (by generalize r5 = qp0; cases qp0 <;> kernel_rfl) (by generalize r5 = qp0; cases qp0 <;> kernel_rfl)) ?_
  refine o_run 7 ⟨[E1, (E3 r5), (4, .one (.own 0) (.sl 6 (List.map e_ref09_Type r6))), (5, .one .top (.bool r7)), (13, .tup [.one .top (Ptr.av r5), .one (.own 0) (.sl 6 (List.map e_ref09_Type r6)), .one .top (.bool r7)]), E4, (E5 r5), (16, .one .top (Ptr.av r5)), (17, .one (.own 0) (.sl 6 (List.map e_ref09_Type r6))), (18, .one .top (.bool r7))], [], H9⟩ (by kernel_rfl) (by generalize r5 = qp0; cases qp0 <;> kernel_rfl) ?_
  exact o_end (by kernel_rfl) (by kernel_rfl)
  refine w_seq ?_
  refine w_seq ?_
  refine w_reg ⟨[(E3 r5), (20, .one .top (.bool (!r7)))], [], H9⟩ (by generalize r5 = qp0; cases qp0 <;> kernel_rfl) ?_
  rcases if_inv hF with ⟨h10, hF⟩ | ⟨h10, hF⟩
  refine w_cT (m := .top) h10 (s1 := S130) (by kernel_rfl) (by kernel_rfl) ?_
  refine w_seq ?_
  refine w_reg S131 (by kernel_rfl) ?_
  refine w_ret ?_
  obtain ⟨e0, e1⟩ := some2_inv hF
  subst e0
  subst e1
  exact fin_imp (v := .one .top (.bool false)) (by kernel_rfl) (by kernel_rfl) (by kernel_rfl)
  refine w_cF (m := .top) h10 (s1 := (⟨[(E3 r5)], [], H9⟩ : St)) (by kernel_rfl) (by kernel_rfl) ?_
  refine w_skip ?_
  refine w_seq ?_
  refine w_seq ?_
  refine w_reg ⟨[(E3 r5), (6, .one .top (.int .i64 0))], [], H9⟩ (by generalize r5 = qp0; cases qp0 <;> kernel_rfl) ?_
  refine w_block ?_
  obtain ⟨r47, hL48, hF⟩ := bind1_inv hF
  refine w_loop (fun (x : (Int)) => (⟨[(E3 r5), (6, .one .top (.int .i64 x))], [], H9⟩ : St)) (Sum.elim (fun (y : Unit) => ((.exit 0, S130) : Ex × St)) (fun (y : Unit) => ((.ret, S131) : Ex × St))) hL48 (by kernel_rfl) ?_ ?_
  rintro a11 o hF
  replace hF : law09_TypesFit_L1 H9 r5 a11 = some o := hF
  let E6 : Nat × TV := (6, .one .top (.int .i64 a11))
  let E8 : Nat × TV := (21, .one .top (.int .i64 a11))
  let E13 : Nat × TV := (28, .one .top (.int .i64 a11))
  let S132 : Ptr → St := fun z0 => ⟨[(E3 z0), E6, E8, (E9 z0)], [], H9⟩
  let S133 : Ptr → St := fun z0 => ⟨[(E3 z0), E6], [], H9⟩
  let S135 : Ptr → St := fun z0 => ⟨[(E3 z0), E6, (E12 z0), E13], [], H9⟩
  unfold law09_TypesFit_L1 at hF
  refine w_seq ?_
  refine w_seq ?_
  obtain ⟨r12, c13, hF⟩ := bind1_inv hF
  let E7 : Nat × TV := (24, .one .top (.bool (decide (a11 < r12))))
  refine w_regO ⟨[(E3 r5), E6, E7], [], H9⟩ ?_ ?_
  refine o_run 2 (S132 r5) (by kernel_rfl) (by generalize r5 = qp0; cases qp0 <;> kernel_rfl) ?_
  refine o_one ⟨[(E3 r5), E6, E8, (E9 r5), (23, .one .top (.int .i64 r12))], [], H9⟩ (st_call (d := (some 23)) (fz := false) (pure := true) (own := false) (S132 r5) (ok_types_Table_Len H9 c13) (by generalize r5 = qp0; cases qp0 <;> kernel_rfl) (by generalize r5 = qp0; cases qp0 <;> kernel_rfl)) ?_
  refine o_run 1 ⟨[(E3 r5), E6, E8, (E9 r5), (23, .one .top (.int .i64 r12)), E7], [], H9⟩ (by kernel_rfl) (by generalize r5 = qp0; cases qp0 <;> kernel_rfl) ?_
  exact o_end (by kernel_rfl) (by kernel_rfl)
  rcases if_inv hF with ⟨h14, hF⟩ | ⟨h14, hF⟩
  refine w_cT (m := .top) h14 (s1 := (S133 r5)) (by kernel_rfl) (by kernel_rfl) ?_
  refine w_skip ?_
  refine w_seq ?_
  refine w_block ?_
  refine w_seq ?_
  obtain ⟨r15, c16, hF⟩ := bind1_inv hF
  let B11 : Nat × List MC := (7, (m1_types_Type r15))
  let E15 : Nat × TV := (31, .one .top (.int .i64 r15.Size_))
  let E21 : Nat × TV := (40, .one .bl (.sl 3 (List.map e_types_Field r15.Fields_)))
  let E22 : Nat × TV := (41, .one .top (.int .i64 (r15.Fields_.length : Int)))
  let E26 : Nat × TV := (46, .one .bl (.sl 3 (List.map e_types_Field r15.Fields_)))
  let E67 : Nat × TV := (74, .one .top (.int .i64 r15.Kind_))
  let E68 : Nat × TV := (75, .one .top (.bool (r15.Kind_ == 6)))
  let E73 : Nat × TV := (79, .one .top (.int .i64 r15.Size_))
  let E98 : Nat × TV := (84, .one .top (.int .i64 r15.Kind_))
  let E99 : Nat × TV := (85, .one .top (.bool (r15.Kind_ == 5)))
  let E100 : Nat × TV := (86, .one .top (.bool (r15.Kind_ == 5)))
  let E104 : Nat × TV := (88, .one .top (.int .i64 r15.Size_))
  let E106 : Nat × TV := (90, .one .top (.int .i64 r15.Len_))
  let E109 : Nat × TV := (93, .one .top (.int .i64 r15.Base_))
  let S134 : Ptr → St := fun z0 => ⟨[(E3 z0), E6, E10], [B11], H9⟩
  refine w_regO (S134 r5) ?_ ?_
  refine o_run 2 (S135 r5) (by kernel_rfl) (by generalize r5 = qp0; cases qp0 <;> kernel_rfl) ?_
  refine o_one ⟨[(E3 r5), E6, (E12 r5), E13, (29, .agg (m1_types_Type r15))], [], H9⟩ (st_call (d := (some 29)) (fz := false) (pure := true) (own := false) (S135 r5) (ok_types_Table_Get H9 c16) (by generalize r5 = qp0; cases qp0 <;> kernel_rfl) (by generalize r5 = qp0; cases qp0 <;> kernel_rfl)) ?_
  refine o_run 2 ⟨[(E3 r5), E6, E10, (E12 r5), E13, (29, .agg [(.top, .int .i64 r15.Kind_), (.top, .int .i64 r15.Len_), (.top, .int .i64 r15.Base_), (.top, .int .i64 r15.Size_), (.top, .bool r15.Open_), (.top, .junk)])], [B11], H9⟩ (by kernel_rfl) (by generalize r5 = qp0; cases qp0 <;> kernel_rfl) ?_
  exact o_end (by kernel_rfl) (by kernel_rfl)
  refine w_seq ?_
  refine w_seq ?_
  refine w_regO ⟨[(E3 r5), E6, E10, (37, .one .top (.bool ((decide (r15.Size_ < 0)) || (decide (r15.Size_ > 16384)))))], [B11], H9⟩ ?_ ?_
  refine o_run 4 ⟨[(E3 r5), E6, E10, E14, E15, (32, .one .top (.bool (decide (r15.Size_ < 0)))), (33, .one .top (.bool (decide (r15.Size_ < 0))))], [B11], H9⟩ (by kernel_rfl) (by generalize r5 = qp0; cases qp0 <;> kernel_rfl) ?_
  rcases bool_cases (decide (r15.Size_ < 0)) with h17 | h17
  refine o_eq (congrArg (fun q => (⟨[(E3 r5), E6, E10, E14, E15, (32, .one .top (.bool q)), (33, .one .top (.bool q))], [B11], H9⟩ : St)) h17) ?_
  refine o_run 4 ⟨[(E3 r5), E6, E10, E14, E15, (32, .one .top (.bool true)), (33, .one .top (.bool true)), (34, .tup []), (35, .tup []), (36, .tup []), (37, .one .top (.bool true))], [B11], H9⟩ (by kernel_rfl) (by generalize r5 = qp0; cases qp0 <;> kernel_rfl) ?_
  refine o_eq2 (congrArg (fun q0 => (⟨[(E3 r5), E6, E10, (37, .one .top (.bool q0))], [B11], H9⟩ : St)) (show true = ((decide (r15.Size_ < 0)) || (decide (r15.Size_ > 16384))) by simp [h17])) ?_
  exact o_end (by kernel_rfl) (by kernel_rfl)
  refine o_eq (congrArg (fun q => (⟨[(E3 r5), E6, E10, E14, E15, (32, .one .top (.bool q)), (33, .one .top (.bool q))], [B11], H9⟩ : St)) h17) ?_
  refine o_run 4 ⟨[(E3 r5), E6, E10, E14, E15, (32, .one .top (.bool false)), (33, .one .top (.bool false)), (34, .one .top (.loc 7 3)), (35, .one .top (.int .i64 r15.Size_)), (36, .one .top (.bool (decide (r15.Size_ > 16384)))), (37, .one .top (.bool (decide (r15.Size_ > 16384))))], [B11], H9⟩ (by kernel_rfl) (by generalize r5 = qp0; cases qp0 <;> kernel_rfl) ?_
  refine o_eq2 (congrArg (fun q0 => (⟨[(E3 r5), E6, E10, (37, .one .top (.bool q0))], [B11], H9⟩ : St)) (show (decide (r15.Size_ > 16384)) = ((decide (r15.Size_ < 0)) || (decide (r15.Size_ > 16384))) by simp [h17])) ?_
  exact o_end (by kernel_rfl) (by kernel_rfl)
  rcases if_inv hF with ⟨h18, hF⟩ | ⟨h18, hF⟩
  refine w_cT (m := .top) h18 (s1 := S130) (by kernel_rfl) (by kernel_rfl) ?_
  refine w_seq ?_
  refine w_reg S131 (by kernel_rfl) ?_
  refine w_ret ?_
  cases hF
  exact ⟨_, rfl, (by kernel_rfl)⟩
  refine w_cF (m := .top) h18 (s1 := (S134 r5)) (by kernel_rfl) (by kernel_rfl) ?_
  refine w_skip ?_
  refine w_seq ?_
  refine w_reg ⟨[(E3 r5), E6, E10, (8, .one .top (.int .i64 0))], [B11], H9⟩ (by generalize r5 = qp0; cases qp0 <;> kernel_rfl) ?_
  refine w_seq ?_
  refine w_seq ?_
  refine w_reg ⟨[(E3 r5), E6, E10, (8, .one .top (.int .i64 0)), (9, .one .top (.int .i64 0))], [B11], H9⟩ (by generalize r5 = qp0; cases qp0 <;> kernel_rfl) ?_
  refine w_block ?_
  obtain ⟨r33, hL34, hF⟩ := bind1_inv hF
  refine w_loop (fun (x : (Int × Int)) => (⟨[(E3 r5), E6, E10, (8, .one .top (.int .i64 x.1)), (9, .one .top (.int .i64 x.2))], [B11], H9⟩ : St)) (Sum.elim (fun (y : (Int)) => ((.exit 2, (⟨[(E3 r5), E6, E10, (8, .one .top (.int .i64 y))], [B11], H9⟩ : St)) : Ex × St)) (fun (y : Unit) => ((.ret, S131) : Ex × St))) hL34 (by kernel_rfl) ?_ ?_
  rintro ⟨a19, a20⟩ o hF
  replace hF : law09_TypesFit_L2 r15 H9 r5 a19 a20 = some o := hF
  let E16 : Nat × TV := (8, .one .top (.int .i64 a19))
  let E17 : Nat × TV := (9, .one .top (.int .i64 a20))
  let E18 : Nat × TV := (42, .one .top (.bool (decide (a20 < (r15.Fields_.length : Int)))))
  let E19 : Nat × TV := (38, .one .top (.int .i64 a20))
  let E27 : Nat × TV := (47, .one .top (.int .i64 a20))
  let E31 : Nat × TV := (52, .one .top (.int .i64 a19))
  let E61 : Nat × TV := (66, .one .top (.int .i64 a19))
  let S136 : Ptr → St := fun z0 => ⟨[(E3 z0), E6, E10, E16, E17, E19, E20, E21], [B11], H9⟩
  let S138 : Ptr → St := fun z0 => ⟨[(E3 z0), E6, E10, E16, E17, E25, E26, E27], [B11], H9⟩
  unfold law09_TypesFit_L2 at hF
  refine w_seq ?_
  refine w_seq ?_
  refine w_regO ⟨[(E3 r5), E6, E10, E16, E17, E18], [B11], H9⟩ ?_ ?_
  refine o_run 3 (S136 r5) (by kernel_rfl) (by generalize r5 = qp0; cases qp0 <;> kernel_rfl) ?_
  refine o_one ⟨[(E3 r5), E6, E10, E16, E17, E19, E20, E21, E22], [B11], H9⟩ (st_len (S136 r5) r15.Fields_ e_types_Field (some 41) (by generalize r5 = qp0; cases qp0 <;> kernel_rfl) (by generalize r5 = qp0; cases qp0 <;> kernel_rfl)) ?_
  refine o_run 1 ⟨[(E3 r5), E6, E10, E16, E17, E19, E20, E21, E22, E18], [B11], H9⟩ (by kernel_rfl) (by generalize r5 = qp0; cases qp0 <;> kernel_rfl) ?_
  exact o_end (by kernel_rfl) (by kernel_rfl)
  rcases if_inv hF with ⟨h21, hF⟩ | ⟨h21, hF⟩
  refine w_cT (m := .top) h21 (s1 := (⟨[(E3 r5), E6, E10, E16, E17], [B11], H9⟩ : St)) (by kernel_rfl) (by kernel_rfl) ?_
  refine w_skip ?_
  refine w_seq ?_
  refine w_block ?_
  refine w_seq ?_
  obtain ⟨x22, h23, hF⟩ := bind1_inv hF
  let B24 : Nat × List MC := (10, (m0_types_Field x22))
  let E28 : Nat × TV := (48, .one .top (.rd .bl .bl [.str x22.Name_, .int .i64 x22.Type_, .int .i64 x22.Offset_] 0))
  let E30 : Nat × TV := (51, .one .top (.int .i64 x22.Offset_))
  let E32 : Nat × TV := (53, .one .top (.bool (x22.Offset_ != a19)))
  let E48 : Nat × TV := (56, .one .top (.int .i64 x22.Type_))
  let E49 : Nat × TV := (57, .one .top (.bool (decide (x22.Type_ < 0))))
  let E50 : Nat × TV := (58, .one .top (.bool (decide (x22.Type_ < 0))))
  let E56 : Nat × TV := (61, .one .top (.int .i64 x22.Type_))
  let E64 : Nat × TV := (69, .one .top (.int .i64 x22.Type_))
  let S137 : Ptr → St := fun z0 => ⟨[(E3 z0), E6, E10, E16, E17, E23], [B11, B24], H9⟩
  let S139 : Ptr → St := fun z0 => ⟨[(E3 z0), E6, E10, E16, E17, E23, E29, E30, E31, E45, E46, E47, E48, E52, E53, E54, E55, E56, (E57 z0)], [B11, B24], H9⟩
  let S140 : Ptr → St := fun z0 => ⟨[(E3 z0), E6, E10, E16, E17, E23, E61, (E62 z0), E63, E64], [B11, B24], H9⟩
  refine w_regO (S137 r5) ?_ ?_
  refine o_run 3 (S138 r5) (by kernel_rfl) (by generalize r5 = qp0; cases qp0 <;> kernel_rfl) ?_
  refine o_one ⟨[(E3 r5), E6, E10, E16, E17, E25, E26, E27, E28], [B11], H9⟩ (st_ix (X := X) (S138 r5) 53 58 3 h23 e_types_Field .bl (some 48) (by generalize r5 = qp0; cases qp0 <;> kernel_rfl) (by generalize r5 = qp0; cases qp0 <;> kernel_rfl) (by generalize r5 = qp0; cases qp0 <;> kernel_rfl) (by generalize r5 = qp0; cases qp0 <;> kernel_rfl)) ?_
  refine o_run 3 ⟨[(E3 r5), E6, E10, E16, E17, E23, E25, E26, E27, E28, (49, .agg (m0_types_Field x22))], [B11, B24], H9⟩ (by kernel_rfl) (by generalize r5 = qp0; cases qp0 <;> kernel_rfl) ?_
  exact o_end (by kernel_rfl) (by kernel_rfl)
  refine w_seq ?_
  refine w_seq ?_
  obtain ⟨w28, hB29, hF⟩ := bind1_inv hF
  refine w_regD (.take 0 (.take 1 (.take 2 (.take 3 (.take 4 (.take 5 (.take 6 (.take 7 (.take 8 (.take 9 (.take 10 (.take 11 (.take 12 (.last 13 (.take 14 (.take 15 .done)))))))))))))))) (by kernel_rfl) (⟨[(E3 r5), E6, E10, E16, E17, E23, (65, .one .top (.bool w28))], [B11, B24], H9⟩ : St) ?_ ?_
  refine d_take ⟨[(E3 r5), E6, E10, E16, E17, E23, E29], [B11, B24], H9⟩ (by generalize r5 = qp0; cases qp0 <;> kernel_rfl) ?_
  refine d_take ⟨[(E3 r5), E6, E10, E16, E17, E23, E29, E30], [B11, B24], H9⟩ (by generalize r5 = qp0; cases qp0 <;> kernel_rfl) ?_
  refine d_take ⟨[(E3 r5), E6, E10, E16, E17, E23, E29, E30, E31], [B11, B24], H9⟩ (by generalize r5 = qp0; cases qp0 <;> kernel_rfl) ?_
  refine d_take ⟨[(E3 r5), E6, E10, E16, E17, E23, E29, E30, E31, E32], [B11, B24], H9⟩ (by generalize r5 = qp0; cases qp0 <;> kernel_rfl) ?_
  refine d_take ⟨[(E3 r5), E6, E10, E16, E17, E23, E29, E30, E31, E32, (54, .one .top (.bool (x22.Offset_ != a19)))], [B11, B24], H9⟩ (by generalize r5 = qp0; cases qp0 <;> kernel_rfl) ?_
  rcases if_inv hB29 with ⟨h24, hB29⟩ | ⟨h24, hB29⟩
  refine d_eq (congrArg (fun q => (⟨[(E3 r5), E6, E10, E16, E17, E23, E29, E30, E31, (53, .one .top (.bool q)), (54, .one .top (.bool q))], [B11, B24], H9⟩ : St)) h24) ?_
  refine d_take ⟨[(E3 r5), E6, E10, E16, E17, E23, E29, E30, E31, E33, E34, E35], [B11, B24], H9⟩ (by generalize r5 = qp0; cases qp0 <;> kernel_rfl) ?_
  refine d_take ⟨[(E3 r5), E6, E10, E16, E17, E23, E29, E30, E31, E33, E34, E35, E36], [B11, B24], H9⟩ (by generalize r5 = qp0; cases qp0 <;> kernel_rfl) ?_
  refine d_take ⟨[(E3 r5), E6, E10, E16, E17, E23, E29, E30, E31, E33, E34, E35, E36, E37], [B11, B24], H9⟩ (by generalize r5 = qp0; cases qp0 <;> kernel_rfl) ?_
  refine d_take ⟨[(E3 r5), E6, E10, E16, E17, E23, E29, E30, E31, E33, E34, E35, E36, E37, E38], [B11, B24], H9⟩ (by generalize r5 = qp0; cases qp0 <;> kernel_rfl) ?_
  refine d_take ⟨[(E3 r5), E6, E10, E16, E17, E23, E29, E30, E31, E33, E34, E35, E36, E37, E38, E39], [B11, B24], H9⟩ (by generalize r5 = qp0; cases qp0 <;> kernel_rfl) ?_
  refine d_take ⟨[(E3 r5), E6, E10, E16, E17, E23, E29, E30, E31, E33, E34, E35, E36, E37, E38, E39, E40], [B11, B24], H9⟩ (by generalize r5 = qp0; cases qp0 <;> kernel_rfl) ?_
  refine d_take ⟨[(E3 r5), E6, E10, E16, E17, E23, E29, E30, E31, E33, E34, E35, E36, E37, E38, E39, E40, E41], [B11, B24], H9⟩ (by generalize r5 = qp0; cases qp0 <;> kernel_rfl) ?_
  refine d_take ⟨[(E3 r5), E6, E10, E16, E17, E23, E29, E30, E31, E33, E34, E35, E36, E37, E38, E39, E40, E41, E42], [B11, B24], H9⟩ (by generalize r5 = qp0; cases qp0 <;> kernel_rfl) ?_
  refine d_last ⟨[(E3 r5), E6, E10, E16, E17, E23, E29, E30, E31, E33, E34, E35, E36, E37, E38, E39, E40, E41, E42, E43], [B11, B24], H9⟩ (by generalize r5 = qp0; cases qp0 <;> kernel_rfl) ?_
  refine d_take ⟨[(E3 r5), E6, E10, E16, E17, E23, E29, E30, E31, E33, E34, E35, E36, E37, E38, E39, E40, E41, E42, E43, E44], [B11, B24], H9⟩ (by generalize r5 = qp0; cases qp0 <;> kernel_rfl) ?_
  refine d_take ⟨[(E3 r5), E6, E10, E16, E17, E23, E29, E30, E31, E33, E34, E35, E36, E37, E38, E39, E40, E41, E42, E43, E44, (65, .one .top (.bool true))], [B11, B24], H9⟩ (by generalize r5 = qp0; cases qp0 <;> kernel_rfl) ?_
  cases hB29
  exact d_end (by kernel_rfl)
  refine d_eq (congrArg (fun q => (⟨[(E3 r5), E6, E10, E16, E17, E23, E29, E30, E31, (53, .one .top (.bool q)), (54, .one .top (.bool q))], [B11, B24], H9⟩ : St)) h24) ?_
  refine d_take ⟨[(E3 r5), E6, E10, E16, E17, E23, E29, E30, E31, E45, E46, E47], [B11, B24], H9⟩ (by generalize r5 = qp0; cases qp0 <;> kernel_rfl) ?_
  refine d_take ⟨[(E3 r5), E6, E10, E16, E17, E23, E29, E30, E31, E45, E46, E47, E48], [B11, B24], H9⟩ (by generalize r5 = qp0; cases qp0 <;> kernel_rfl) ?_
  refine d_take ⟨[(E3 r5), E6, E10, E16, E17, E23, E29, E30, E31, E45, E46, E47, E48, E49], [B11, B24], H9⟩ (by generalize r5 = qp0; cases qp0 <;> kernel_rfl) ?_
  refine d_take ⟨[(E3 r5), E6, E10, E16, E17, E23, E29, E30, E31, E45, E46, E47, E48, E49, E50], [B11, B24], H9⟩ (by generalize r5 = qp0; cases qp0 <;> kernel_rfl) ?_
  refine d_take ⟨[(E3 r5), E6, E10, E16, E17, E23, E29, E30, E31, E45, E46, E47, E48, E49, E50, (59, .one .top (.bool (decide (x22.Type_ < 0))))], [B11, B24], H9⟩ (by generalize r5 = qp0; cases qp0 <;> kernel_rfl) ?_
  rcases if_inv hB29 with ⟨h25, hB29⟩ | ⟨h25, hB29⟩
  refine d_eq (congrArg (fun q => (⟨[(E3 r5), E6, E10, E16, E17, E23, E29, E30, E31, E45, E46, E47, E48, (57, .one .top (.bool q)), (58, .one .top (.bool q)), (59, .one .top (.bool q))], [B11, B24], H9⟩ : St)) h25) ?_
  refine d_take ⟨[(E3 r5), E6, E10, E16, E17, E23, E29, E30, E31, E45, E46, E47, E48, E51, E38, E39, E40], [B11, B24], H9⟩ (by generalize r5 = qp0; cases qp0 <;> kernel_rfl) ?_
  refine d_take ⟨[(E3 r5), E6, E10, E16, E17, E23, E29, E30, E31, E45, E46, E47, E48, E51, E38, E39, E40, E41], [B11, B24], H9⟩ (by generalize r5 = qp0; cases qp0 <;> kernel_rfl) ?_
  refine d_take ⟨[(E3 r5), E6, E10, E16, E17, E23, E29, E30, E31, E45, E46, E47, E48, E51, E38, E39, E40, E41, E42], [B11, B24], H9⟩ (by generalize r5 = qp0; cases qp0 <;> kernel_rfl) ?_
  refine d_last ⟨[(E3 r5), E6, E10, E16, E17, E23, E29, E30, E31, E45, E46, E47, E48, E51, E38, E39, E40, E41, E42, E43], [B11, B24], H9⟩ (by generalize r5 = qp0; cases qp0 <;> kernel_rfl) ?_
  refine d_take ⟨[(E3 r5), E6, E10, E16, E17, E23, E29, E30, E31, E45, E46, E47, E48, E51, E38, E39, E40, E41, E42, E43, E44], [B11, B24], H9⟩ (by generalize r5 = qp0; cases qp0 <;> kernel_rfl) ?_
  refine d_take ⟨[(E3 r5), E6, E10, E16, E17, E23, E29, E30, E31, E45, E46, E47, E48, E51, E38, E39, E40, E41, E42, E43, E44, (65, .one .top (.bool true))], [B11, B24], H9⟩ (by generalize r5 = qp0; cases qp0 <;> kernel_rfl) ?_
  cases hB29
  exact d_end (by kernel_rfl)
  refine d_eq (congrArg (fun q => (⟨[(E3 r5), E6, E10, E16, E17, E23, E29, E30, E31, E45, E46, E47, E48, (57, .one .top (.bool q)), (58, .one .top (.bool q)), (59, .one .top (.bool q))], [B11, B24], H9⟩ : St)) h25) ?_
  refine d_take ⟨[(E3 r5), E6, E10, E16, E17, E23, E29, E30, E31, E45, E46, E47, E48, E52, E53, E54, E55], [B11, B24], H9⟩ (by generalize r5 = qp0; cases qp0 <;> kernel_rfl) ?_
  refine d_take ⟨[(E3 r5), E6, E10, E16, E17, E23, E29, E30, E31, E45, E46, E47, E48, E52, E53, E54, E55, E56], [B11, B24], H9⟩ (by generalize r5 = qp0; cases qp0 <;> kernel_rfl) ?_
  refine d_take (S139 r5) (by generalize r5 = qp0; cases qp0 <;> kernel_rfl) ?_
  obtain ⟨r26, c27, hB29⟩ := bind1_inv hB29
  let E58 : Nat × TV := (63, .one .top (.int .i64 r26))
  let E59 : Nat × TV := (64, .one .top (.bool (decide (x22.Type_ ≥ r26))))
  refine d_last ⟨[(E3 r5), E6, E10, E16, E17, E23, E29, E30, E31, E45, E46, E47, E48, E52, E53, E54, E55, E56, (E57 r5), E58], [B11, B24], H9⟩ (st_call (d := (some 63)) (fz := false) (pure := true) (own := false) (S139 r5) (ok_types_Table_Len H9 c27) (by generalize r5 = qp0; cases qp0 <;> kernel_rfl) (by generalize r5 = qp0; cases qp0 <;> kernel_rfl)) ?_
  refine d_take ⟨[(E3 r5), E6, E10, E16, E17, E23, E29, E30, E31, E45, E46, E47, E48, E52, E53, E54, E55, E56, (E57 r5), E58, E59], [B11, B24], H9⟩ (by generalize r5 = qp0; cases qp0 <;> kernel_rfl) ?_
  refine d_take ⟨[(E3 r5), E6, E10, E16, E17, E23, E29, E30, E31, E45, E46, E47, E48, E52, E53, E54, E55, E56, (E57 r5), E58, E59, (65, .one .top (.bool (decide (x22.Type_ ≥ r26))))], [B11, B24], H9⟩ (by generalize r5 = qp0; cases qp0 <;> kernel_rfl) ?_
  cases hB29
  exact d_end (by kernel_rfl)
  rcases if_inv hF with ⟨h30, hF⟩ | ⟨h30, hF⟩
  refine w_cT (m := .top) h30 (s1 := S130) (by kernel_rfl) (by kernel_rfl) ?_
  refine w_seq ?_
  refine w_reg S131 (by kernel_rfl) ?_
  refine w_ret ?_
  cases hF
  exact ⟨_, rfl, (by kernel_rfl)⟩
  refine w_cF (m := .top) h30 (s1 := (S137 r5)) (by kernel_rfl) (by kernel_rfl) ?_
  refine w_skip ?_
  obtain ⟨r31, c32, hF⟩ := bind1_inv hF
  let E60 : Nat × TV := (8, .one .top (.int .i64 (IntKind.wrap .i64 (a19 + r31.Size_))))
  refine w_regO ⟨[(E3 r5), E6, E10, E60, E17], [B11], H9⟩ ?_ ?_
  refine o_run 4 (S140 r5) (by kernel_rfl) (by generalize r5 = qp0; cases qp0 <;> kernel_rfl) ?_
  refine o_one ⟨[(E3 r5), E6, E10, E16, E17, E23, E61, (E62 r5), E63, E64, (70, .agg (m1_types_Type r31))], [B11, B24], H9⟩ (st_call (d := (some 70)) (fz := false) (pure := true) (own := false) (S140 r5) (ok_types_Table_Get H9 c32) (by generalize r5 = qp0; cases qp0 <;> kernel_rfl) (by generalize r5 = qp0; cases qp0 <;> kernel_rfl)) ?_
  refine o_run 3 ⟨[(E3 r5), E6, E10, E60, E17, E23, E61, (E62 r5), E63, E64, (70, .agg (m1_types_Type r31)), (71, .one .top (.int .i64 r31.Size_)), (72, .one .top (.int .i64 (IntKind.wrap .i64 (a19 + r31.Size_))))], [B11, B24], H9⟩ (by kernel_rfl) (by generalize r5 = qp0; cases qp0 <;> kernel_rfl) ?_
  exact o_end (by kernel_rfl) (by kernel_rfl)
  refine w_reg ⟨[(E3 r5), E6, E10, E60, (9, .one .top (.int .i64 (IntKind.wrap .i64 (a20 + 1))))], [B11], H9⟩ (by generalize r5 = qp0; cases qp0 <;> kernel_rfl) ?_
  cases hF
  exact ⟨_, rfl, (by kernel_rfl)⟩
  refine w_cF (m := .top) h21 (s1 := (⟨[(E3 r5), E6, E10, E16], [B11], H9⟩ : St)) (by kernel_rfl) (by kernel_rfl) ?_
  refine w_exit ?_
  cases hF
  exact ⟨_, rfl, (by kernel_rfl)⟩
  rcases sum2_inv hF with ⟨r33', rfl, hF⟩ | ⟨r33', rfl, hF⟩
  obtain ⟨b35, hy⟩ : ∃ y, y = r33' := ⟨_, rfl⟩
  subst hy
  let E65 : Nat × TV := (8, .one .top (.int .i64 b35))
  let E71 : Nat × TV := (77, .one .top (.int .i64 b35))
  let E74 : Nat × TV := (80, .one .top (.bool (b35 != r15.Size_)))
  let E75 : Nat × TV := (81, .one .top (.bool (b35 != r15.Size_)))
  let S141 : Ptr → St := fun z0 => ⟨[(E3 z0), E6, E10, E65, E66, E67, E69, E70, E71, E72, E73, E94, E95, E96, E97, E98, E101, E102, E103, E104, E105, E106, (E107 z0), E108, E109], [B11], H9⟩
  let S142 : Ptr → St := fun z0 => ⟨[(E3 z0), E6, E10, E65, E66, E67, E118, E119, E120, E121, E122, E123, E95, E96, E97, E98, E101, E102, E103, E104, E105, E106, (E107 z0), E108, E109], [B11], H9⟩
  refine w_oe (i := 2) (s := (⟨[(E3 r5), E6, E10, E65], [B11], H9⟩ : St)) (by kernel_rfl) ?_
  refine e_here ?_
  refine w_seq ?_
  obtain ⟨w44, hB45, hF⟩ := bind1_inv hF
  refine w_regD (.take 0 (.take 1 (.take 2 (.take 3 (.take 4 (.take 5 (.take 6 (.take 7 (.take 8 (.take 9 (.take 10 (.take 11 (.take 12 (.take 13 (.take 14 (.take 15 (.take 16 (.take 17 (.take 18 (.take 19 (.take 20 (.last 21 (.take 22 (.take 23 (.take 24 (.take 25 (.take 26 .done))))))))))))))))))))))))))) (by kernel_rfl) (⟨[(E3 r5), E6, (99, .one .top (.bool w44))], [], H9⟩ : St) ?_ ?_
  refine d_take ⟨[(E3 r5), E6, E10, E65, E66], [B11], H9⟩ (by generalize r5 = qp0; cases qp0 <;> kernel_rfl) ?_
  refine d_take ⟨[(E3 r5), E6, E10, E65, E66, E67], [B11], H9⟩ (by generalize r5 = qp0; cases qp0 <;> kernel_rfl) ?_
  refine d_take ⟨[(E3 r5), E6, E10, E65, E66, E67, E68], [B11], H9⟩ (by generalize r5 = qp0; cases qp0 <;> kernel_rfl) ?_
  refine d_take ⟨[(E3 r5), E6, E10, E65, E66, E67, E68, (76, .one .top (.bool (r15.Kind_ == 6)))], [B11], H9⟩ (by generalize r5 = qp0; cases qp0 <;> kernel_rfl) ?_
  rcases if_inv hB45 with ⟨h36, hB45⟩ | ⟨h36, hB45⟩
  refine d_eq (congrArg (fun q => (⟨[(E3 r5), E6, E10, E65, E66, E67, (75, .one .top (.bool q)), (76, .one .top (.bool q))], [B11], H9⟩ : St)) h36) ?_
  refine d_take ⟨[(E3 r5), E6, E10, E65, E66, E67, E69, E70, E71], [B11], H9⟩ (by generalize r5 = qp0; cases qp0 <;> kernel_rfl) ?_
  refine d_take ⟨[(E3 r5), E6, E10, E65, E66, E67, E69, E70, E71, E72], [B11], H9⟩ (by generalize r5 = qp0; cases qp0 <;> kernel_rfl) ?_
  refine d_take ⟨[(E3 r5), E6, E10, E65, E66, E67, E69, E70, E71, E72, E73], [B11], H9⟩ (by generalize r5 = qp0; cases qp0 <;> kernel_rfl) ?_
  refine d_take ⟨[(E3 r5), E6, E10, E65, E66, E67, E69, E70, E71, E72, E73, E74], [B11], H9⟩ (by generalize r5 = qp0; cases qp0 <;> kernel_rfl) ?_
  refine d_take ⟨[(E3 r5), E6, E10, E65, E66, E67, E69, E70, E71, E72, E73, E74, E75], [B11], H9⟩ (by generalize r5 = qp0; cases qp0 <;> kernel_rfl) ?_
  refine d_take ⟨[(E3 r5), E6, E10, E65, E66, E67, E69, E70, E71, E72, E73, E74, E75, (82, .one .top (.bool (b35 != r15.Size_)))], [B11], H9⟩ (by generalize r5 = qp0; cases qp0 <;> kernel_rfl) ?_
  rcases if_inv hB45 with ⟨h37, hB45⟩ | ⟨h37, hB45⟩
  refine d_eq (congrArg (fun q => (⟨[(E3 r5), E6, E10, E65, E66, E67, E69, E70, E71, E72, E73, (80, .one .top (.bool q)), (81, .one .top (.bool q)), (82, .one .top (.bool q))], [B11], H9⟩ : St)) h37) ?_
  refine d_take ⟨[(E3 r5), E6, E10, E65, E66, E67, E69, E70, E71, E72, E73, E76, E77, E78, E79], [B11], H9⟩ (by generalize r5 = qp0; cases qp0 <;> kernel_rfl) ?_
  refine d_take ⟨[(E3 r5), E6, E10, E65, E66, E67, E69, E70, E71, E72, E73, E76, E77, E78, E79, E80], [B11], H9⟩ (by generalize r5 = qp0; cases qp0 <;> kernel_rfl) ?_
  refine d_take ⟨[(E3 r5), E6, E10, E65, E66, E67, E69, E70, E71, E72, E73, E76, E77, E78, E79, E80, E81], [B11], H9⟩ (by generalize r5 = qp0; cases qp0 <;> kernel_rfl) ?_
  refine d_take ⟨[(E3 r5), E6, E10, E65, E66, E67, E69, E70, E71, E72, E73, E76, E77, E78, E79, E80, E81, E82], [B11], H9⟩ (by generalize r5 = qp0; cases qp0 <;> kernel_rfl) ?_
  refine d_take ⟨[(E3 r5), E6, E10, E65, E66, E67, E69, E70, E71, E72, E73, E76, E77, E78, E79, E80, E81, E82, E83], [B11], H9⟩ (by generalize r5 = qp0; cases qp0 <;> kernel_rfl) ?_
  refine d_take ⟨[(E3 r5), E6, E10, E65, E66, E67, E69, E70, E71, E72, E73, E76, E77, E78, E79, E80, E81, E82, E83, E84], [B11], H9⟩ (by generalize r5 = qp0; cases qp0 <;> kernel_rfl) ?_
  refine d_take ⟨[(E3 r5), E6, E10, E65, E66, E67, E69, E70, E71, E72, E73, E76, E77, E78, E79, E80, E81, E82, E83, E84, E85], [B11], H9⟩ (by generalize r5 = qp0; cases qp0 <;> kernel_rfl) ?_
  refine d_take ⟨[(E3 r5), E6, E10, E65, E66, E67, E69, E70, E71, E72, E73, E76, E77, E78, E79, E80, E81, E82, E83, E84, E85, E86], [B11], H9⟩ (by generalize r5 = qp0; cases qp0 <;> kernel_rfl) ?_
  refine d_take ⟨[(E3 r5), E6, E10, E65, E66, E67, E69, E70, E71, E72, E73, E76, E77, E78, E79, E80, E81, E82, E83, E84, E85, E86, E87], [B11], H9⟩ (by generalize r5 = qp0; cases qp0 <;> kernel_rfl) ?_
  refine d_take ⟨[(E3 r5), E6, E10, E65, E66, E67, E69, E70, E71, E72, E73, E76, E77, E78, E79, E80, E81, E82, E83, E84, E85, E86, E87, E88], [B11], H9⟩ (by generalize r5 = qp0; cases qp0 <;> kernel_rfl) ?_
  refine d_take ⟨[(E3 r5), E6, E10, E65, E66, E67, E69, E70, E71, E72, E73, E76, E77, E78, E79, E80, E81, E82, E83, E84, E85, E86, E87, E88, E89], [B11], H9⟩ (by generalize r5 = qp0; cases qp0 <;> kernel_rfl) ?_
  refine d_last ⟨[(E3 r5), E6, E10, E65, E66, E67, E69, E70, E71, E72, E73, E76, E77, E78, E79, E80, E81, E82, E83, E84, E85, E86, E87, E88, E89, E90], [B11], H9⟩ (by generalize r5 = qp0; cases qp0 <;> kernel_rfl) ?_
  refine d_take ⟨[(E3 r5), E6, E10, E65, E66, E67, E69, E70, E71, E72, E73, E76, E77, E78, E79, E80, E81, E82, E83, E84, E85, E86, E87, E88, E89, E90, E91], [B11], H9⟩ (by generalize r5 = qp0; cases qp0 <;> kernel_rfl) ?_
  refine d_take ⟨[(E3 r5), E6, E10, E65, E66, E67, E69, E70, E71, E72, E73, E76, E77, E78, E79, E80, E81, E82, E83, E84, E85, E86, E87, E88, E89, E90, E91, E92], [B11], H9⟩ (by generalize r5 = qp0; cases qp0 <;> kernel_rfl) ?_
  refine d_take ⟨[(E3 r5), E6, E10, E65, E66, E67, E69, E70, E71, E72, E73, E76, E77, E78, E79, E80, E81, E82, E83, E84, E85, E86, E87, E88, E89, E90, E91, E92, E93], [B11], H9⟩ (by generalize r5 = qp0; cases qp0 <;> kernel_rfl) ?_
  refine d_take ⟨[(E3 r5), E6, E10, E65, E66, E67, E69, E70, E71, E72, E73, E76, E77, E78, E79, E80, E81, E82, E83, E84, E85, E86, E87, E88, E89, E90, E91, E92, E93, (98, .tup [])], [B11], H9⟩ (by generalize r5 = qp0; cases qp0 <;> kernel_rfl) ?_
  refine d_take ⟨[(E3 r5), E6, E10, E65, E66, E67, E69, E70, E71, E72, E73, E76, E77, E78, E79, E80, E81, E82, E83, E84, E85, E86, E87, E88, E89, E90, E91, E92, E93, (98, .tup []), (99, .one .top (.bool true))], [B11], H9⟩ (by generalize r5 = qp0; cases qp0 <;> kernel_rfl) ?_
  cases hB45
  exact d_end (by kernel_rfl)
  refine d_eq (congrArg (fun q => (⟨[(E3 r5), E6, E10, E65, E66, E67, E69, E70, E71, E72, E73, (80, .one .top (.bool q)), (81, .one .top (.bool q)), (82, .one .top (.bool q))], [B11], H9⟩ : St)) h37) ?_
  refine d_take ⟨[(E3 r5), E6, E10, E65, E66, E67, E69, E70, E71, E72, E73, E94, E95, E96, E97], [B11], H9⟩ (by generalize r5 = qp0; cases qp0 <;> kernel_rfl) ?_
  refine d_take ⟨[(E3 r5), E6, E10, E65, E66, E67, E69, E70, E71, E72, E73, E94, E95, E96, E97, E98], [B11], H9⟩ (by generalize r5 = qp0; cases qp0 <;> kernel_rfl) ?_
  refine d_take ⟨[(E3 r5), E6, E10, E65, E66, E67, E69, E70, E71, E72, E73, E94, E95, E96, E97, E98, E99], [B11], H9⟩ (by generalize r5 = qp0; cases qp0 <;> kernel_rfl) ?_
  refine d_take ⟨[(E3 r5), E6, E10, E65, E66, E67, E69, E70, E71, E72, E73, E94, E95, E96, E97, E98, E99, E100], [B11], H9⟩ (by generalize r5 = qp0; cases qp0 <;> kernel_rfl) ?_
  rcases if_inv hB45 with ⟨h38, hB45⟩ | ⟨h38, hB45⟩
  refine d_eq (congrArg (fun q => (⟨[(E3 r5), E6, E10, E65, E66, E67, E69, E70, E71, E72, E73, E94, E95, E96, E97, E98, (85, .one .top (.bool q)), (86, .one .top (.bool q))], [B11], H9⟩ : St)) h38) ?_
  refine d_take ⟨[(E3 r5), E6, E10, E65, E66, E67, E69, E70, E71, E72, E73, E94, E95, E96, E97, E98, E101, E102, E103], [B11], H9⟩ (by generalize r5 = qp0; cases qp0 <;> kernel_rfl) ?_
  refine d_take ⟨[(E3 r5), E6, E10, E65, E66, E67, E69, E70, E71, E72, E73, E94, E95, E96, E97, E98, E101, E102, E103, E104], [B11], H9⟩ (by generalize r5 = qp0; cases qp0 <;> kernel_rfl) ?_
  refine d_take ⟨[(E3 r5), E6, E10, E65, E66, E67, E69, E70, E71, E72, E73, E94, E95, E96, E97, E98, E101, E102, E103, E104, E105], [B11], H9⟩ (by generalize r5 = qp0; cases qp0 <;> kernel_rfl) ?_
  refine d_take ⟨[(E3 r5), E6, E10, E65, E66, E67, E69, E70, E71, E72, E73, E94, E95, E96, E97, E98, E101, E102, E103, E104, E105, E106], [B11], H9⟩ (by generalize r5 = qp0; cases qp0 <;> kernel_rfl) ?_
  refine d_take ⟨[(E3 r5), E6, E10, E65, E66, E67, E69, E70, E71, E72, E73, E94, E95, E96, E97, E98, E101, E102, E103, E104, E105, E106, (E107 r5)], [B11], H9⟩ (by generalize r5 = qp0; cases qp0 <;> kernel_rfl) ?_
  refine d_take ⟨[(E3 r5), E6, E10, E65, E66, E67, E69, E70, E71, E72, E73, E94, E95, E96, E97, E98, E101, E102, E103, E104, E105, E106, (E107 r5), E108], [B11], H9⟩ (by generalize r5 = qp0; cases qp0 <;> kernel_rfl) ?_
  refine d_take (S141 r5) (by generalize r5 = qp0; cases qp0 <;> kernel_rfl) ?_
  obtain ⟨r39, c40, hB45⟩ := bind1_inv hB45
  let E110 : Nat × TV := (94, .agg (m1_types_Type r39))
  let E111 : Nat × TV := (95, .one .top (.int .i64 r39.Size_))
  let E112 : Nat × TV := (96, .one .top (.int .i64 (IntKind.wrap .i64 (r15.Len_ * r39.Size_))))
  let E113 : Nat × TV := (97, .one .top (.bool (r15.Size_ != (IntKind.wrap .i64 (r15.Len_ * r39.Size_)))))
  let E114 : Nat × TV := (98, .one .top (.bool (r15.Size_ != (IntKind.wrap .i64 (r15.Len_ * r39.Size_)))))
  refine d_last ⟨[(E3 r5), E6, E10, E65, E66, E67, E69, E70, E71, E72, E73, E94, E95, E96, E97, E98, E101, E102, E103, E104, E105, E106, (E107 r5), E108, E109, E110], [B11], H9⟩ (st_call (d := (some 94)) (fz := false) (pure := true) (own := false) (S141 r5) (ok_types_Table_Get H9 c40) (by generalize r5 = qp0; cases qp0 <;> kernel_rfl) (by generalize r5 = qp0; cases qp0 <;> kernel_rfl)) ?_
  refine d_take ⟨[(E3 r5), E6, E10, E65, E66, E67, E69, E70, E71, E72, E73, E94, E95, E96, E97, E98, E101, E102, E103, E104, E105, E106, (E107 r5), E108, E109, E110, E111], [B11], H9⟩ (by generalize r5 = qp0; cases qp0 <;> kernel_rfl) ?_
  refine d_take ⟨[(E3 r5), E6, E10, E65, E66, E67, E69, E70, E71, E72, E73, E94, E95, E96, E97, E98, E101, E102, E103, E104, E105, E106, (E107 r5), E108, E109, E110, E111, E112], [B11], H9⟩ (by generalize r5 = qp0; cases qp0 <;> kernel_rfl) ?_
  refine d_take ⟨[(E3 r5), E6, E10, E65, E66, E67, E69, E70, E71, E72, E73, E94, E95, E96, E97, E98, E101, E102, E103, E104, E105, E106, (E107 r5), E108, E109, E110, E111, E112, E113], [B11], H9⟩ (by generalize r5 = qp0; cases qp0 <;> kernel_rfl) ?_
  refine d_take ⟨[(E3 r5), E6, E10, E65, E66, E67, E69, E70, E71, E72, E73, E94, E95, E96, E97, E98, E101, E102, E103, E104, E105, E106, (E107 r5), E108, E109, E110, E111, E112, E113, E114], [B11], H9⟩ (by generalize r5 = qp0; cases qp0 <;> kernel_rfl) ?_
  refine d_take ⟨[(E3 r5), E6, E10, E65, E66, E67, E69, E70, E71, E72, E73, E94, E95, E96, E97, E98, E101, E102, E103, E104, E105, E106, (E107 r5), E108, E109, E110, E111, E112, E113, E114, (99, .one .top (.bool (r15.Size_ != (IntKind.wrap .i64 (r15.Len_ * r39.Size_)))))], [B11], H9⟩ (by generalize r5 = qp0; cases qp0 <;> kernel_rfl) ?_
  cases hB45
  exact d_end (by kernel_rfl)
  refine d_eq (congrArg (fun q => (⟨[(E3 r5), E6, E10, E65, E66, E67, E69, E70, E71, E72, E73, E94, E95, E96, E97, E98, (85, .one .top (.bool q)), (86, .one .top (.bool q))], [B11], H9⟩ : St)) h38) ?_
  refine d_take ⟨[(E3 r5), E6, E10, E65, E66, E67, E69, E70, E71, E72, E73, E94, E95, E96, E97, E98, E115, E116, E83], [B11], H9⟩ (by generalize r5 = qp0; cases qp0 <;> kernel_rfl) ?_
  refine d_take ⟨[(E3 r5), E6, E10, E65, E66, E67, E69, E70, E71, E72, E73, E94, E95, E96, E97, E98, E115, E116, E83, E84], [B11], H9⟩ (by generalize r5 = qp0; cases qp0 <;> kernel_rfl) ?_
  refine d_take ⟨[(E3 r5), E6, E10, E65, E66, E67, E69, E70, E71, E72, E73, E94, E95, E96, E97, E98, E115, E116, E83, E84, E85], [B11], H9⟩ (by generalize r5 = qp0; cases qp0 <;> kernel_rfl) ?_
  refine d_take ⟨[(E3 r5), E6, E10, E65, E66, E67, E69, E70, E71, E72, E73, E94, E95, E96, E97, E98, E115, E116, E83, E84, E85, E86], [B11], H9⟩ (by generalize r5 = qp0; cases qp0 <;> kernel_rfl) ?_
  refine d_take ⟨[(E3 r5), E6, E10, E65, E66, E67, E69, E70, E71, E72, E73, E94, E95, E96, E97, E98, E115, E116, E83, E84, E85, E86, E87], [B11], H9⟩ (by generalize r5 = qp0; cases qp0 <;> kernel_rfl) ?_
  refine d_take ⟨[(E3 r5), E6, E10, E65, E66, E67, E69, E70, E71, E72, E73, E94, E95, E96, E97, E98, E115, E116, E83, E84, E85, E86, E87, E88], [B11], H9⟩ (by generalize r5 = qp0; cases qp0 <;> kernel_rfl) ?_
  refine d_take ⟨[(E3 r5), E6, E10, E65, E66, E67, E69, E70, E71, E72, E73, E94, E95, E96, E97, E98, E115, E116, E83, E84, E85, E86, E87, E88, E89], [B11], H9⟩ (by generalize r5 = qp0; cases qp0 <;> kernel_rfl) ?_
  refine d_last ⟨[(E3 r5), E6, E10, E65, E66, E67, E69, E70, E71, E72, E73, E94, E95, E96, E97, E98, E115, E116, E83, E84, E85, E86, E87, E88, E89, E90], [B11], H9⟩ (by generalize r5 = qp0; cases qp0 <;> kernel_rfl) ?_
  refine d_take ⟨[(E3 r5), E6, E10, E65, E66, E67, E69, E70, E71, E72, E73, E94, E95, E96, E97, E98, E115, E116, E83, E84, E85, E86, E87, E88, E89, E90, E91], [B11], H9⟩ (by generalize r5 = qp0; cases qp0 <;> kernel_rfl) ?_
  refine d_take ⟨[(E3 r5), E6, E10, E65, E66, E67, E69, E70, E71, E72, E73, E94, E95, E96, E97, E98, E115, E116, E83, E84, E85, E86, E87, E88, E89, E90, E91, E92], [B11], H9⟩ (by generalize r5 = qp0; cases qp0 <;> kernel_rfl) ?_
  refine d_take ⟨[(E3 r5), E6, E10, E65, E66, E67, E69, E70, E71, E72, E73, E94, E95, E96, E97, E98, E115, E116, E83, E84, E85, E86, E87, E88, E89, E90, E91, E92, E93], [B11], H9⟩ (by generalize r5 = qp0; cases qp0 <;> kernel_rfl) ?_
  refine d_take ⟨[(E3 r5), E6, E10, E65, E66, E67, E69, E70, E71, E72, E73, E94, E95, E96, E97, E98, E115, E116, E83, E84, E85, E86, E87, E88, E89, E90, E91, E92, E93, E117], [B11], H9⟩ (by generalize r5 = qp0; cases qp0 <;> kernel_rfl) ?_
  refine d_take ⟨[(E3 r5), E6, E10, E65, E66, E67, E69, E70, E71, E72, E73, E94, E95, E96, E97, E98, E115, E116, E83, E84, E85, E86, E87, E88, E89, E90, E91, E92, E93, E117, (99, .one .top (.bool false))], [B11], H9⟩ (by generalize r5 = qp0; cases qp0 <;> kernel_rfl) ?_
  cases hB45
  exact d_end (by kernel_rfl)
  refine d_eq (congrArg (fun q => (⟨[(E3 r5), E6, E10, E65, E66, E67, (75, .one .top (.bool q)), (76, .one .top (.bool q))], [B11], H9⟩ : St)) h36) ?_
  refine d_take ⟨[(E3 r5), E6, E10, E65, E66, E67, E118, E119, E120], [B11], H9⟩ (by generalize r5 = qp0; cases qp0 <;> kernel_rfl) ?_
  refine d_take ⟨[(E3 r5), E6, E10, E65, E66, E67, E118, E119, E120, E121], [B11], H9⟩ (by generalize r5 = qp0; cases qp0 <;> kernel_rfl) ?_
  refine d_take ⟨[(E3 r5), E6, E10, E65, E66, E67, E118, E119, E120, E121, E122], [B11], H9⟩ (by generalize r5 = qp0; cases qp0 <;> kernel_rfl) ?_
  refine d_take ⟨[(E3 r5), E6, E10, E65, E66, E67, E118, E119, E120, E121, E122, E123], [B11], H9⟩ (by generalize r5 = qp0; cases qp0 <;> kernel_rfl) ?_
  refine d_take ⟨[(E3 r5), E6, E10, E65, E66, E67, E118, E119, E120, E121, E122, E123, E95], [B11], H9⟩ (by generalize r5 = qp0; cases qp0 <;> kernel_rfl) ?_
  refine d_take ⟨[(E3 r5), E6, E10, E65, E66, E67, E118, E119, E120, E121, E122, E123, E95, E96], [B11], H9⟩ (by generalize r5 = qp0; cases qp0 <;> kernel_rfl) ?_
  refine d_take ⟨[(E3 r5), E6, E10, E65, E66, E67, E118, E119, E120, E121, E122, E123, E95, E96, E97], [B11], H9⟩ (by generalize r5 = qp0; cases qp0 <;> kernel_rfl) ?_
  refine d_take ⟨[(E3 r5), E6, E10, E65, E66, E67, E118, E119, E120, E121, E122, E123, E95, E96, E97, E98], [B11], H9⟩ (by generalize r5 = qp0; cases qp0 <;> kernel_rfl) ?_
  refine d_take ⟨[(E3 r5), E6, E10, E65, E66, E67, E118, E119, E120, E121, E122, E123, E95, E96, E97, E98, E99], [B11], H9⟩ (by generalize r5 = qp0; cases qp0 <;> kernel_rfl) ?_
  refine d_take ⟨[(E3 r5), E6, E10, E65, E66, E67, E118, E119, E120, E121, E122, E123, E95, E96, E97, E98, E99, E100], [B11], H9⟩ (by generalize r5 = qp0; cases qp0 <;> kernel_rfl) ?_
  rcases if_inv hB45 with ⟨h41, hB45⟩ | ⟨h41, hB45⟩
  refine d_eq (congrArg (fun q => (⟨[(E3 r5), E6, E10, E65, E66, E67, E118, E119, E120, E121, E122, E123, E95, E96, E97, E98, (85, .one .top (.bool q)), (86, .one .top (.bool q))], [B11], H9⟩ : St)) h41) ?_
  refine d_take ⟨[(E3 r5), E6, E10, E65, E66, E67, E118, E119, E120, E121, E122, E123, E95, E96, E97, E98, E101, E102, E103], [B11], H9⟩ (by generalize r5 = qp0; cases qp0 <;> kernel_rfl) ?_
  refine d_take ⟨[(E3 r5), E6, E10, E65, E66, E67, E118, E119, E120, E121, E122, E123, E95, E96, E97, E98, E101, E102, E103, E104], [B11], H9⟩ (by generalize r5 = qp0; cases qp0 <;> kernel_rfl) ?_
  refine d_take ⟨[(E3 r5), E6, E10, E65, E66, E67, E118, E119, E120, E121, E122, E123, E95, E96, E97, E98, E101, E102, E103, E104, E105], [B11], H9⟩ (by generalize r5 = qp0; cases qp0 <;> kernel_rfl) ?_
  refine d_take ⟨[(E3 r5), E6, E10, E65, E66, E67, E118, E119, E120, E121, E122, E123, E95, E96, E97, E98, E101, E102, E103, E104, E105, E106], [B11], H9⟩ (by generalize r5 = qp0; cases qp0 <;> kernel_rfl) ?_
  refine d_take ⟨[(E3 r5), E6, E10, E65, E66, E67, E118, E119, E120, E121, E122, E123, E95, E96, E97, E98, E101, E102, E103, E104, E105, E106, (E107 r5)], [B11], H9⟩ (by generalize r5 = qp0; cases qp0 <;> kernel_rfl) ?_
  refine d_take ⟨[(E3 r5), E6, E10, E65, E66, E67, E118, E119, E120, E121, E122, E123, E95, E96, E97, E98, E101, E102, E103, E104, E105, E106, (E107 r5), E108], [B11], H9⟩ (by generalize r5 = qp0; cases qp0 <;> kernel_rfl) ?_
  refine d_take (S142 r5) (by generalize r5 = qp0; cases qp0 <;> kernel_rfl) ?_
  obtain ⟨r42, c43, hB45⟩ := bind1_inv hB45
  let E124 : Nat × TV := (94, .agg (m1_types_Type r42))
  let E125 : Nat × TV := (95, .one .top (.int .i64 r42.Size_))
  let E126 : Nat × TV := (96, .one .top (.int .i64 (IntKind.wrap .i64 (r15.Len_ * r42.Size_))))
  let E127 : Nat × TV := (97, .one .top (.bool (r15.Size_ != (IntKind.wrap .i64 (r15.Len_ * r42.Size_)))))
  let E128 : Nat × TV := (98, .one .top (.bool (r15.Size_ != (IntKind.wrap .i64 (r15.Len_ * r42.Size_)))))
  refine d_last ⟨[(E3 r5), E6, E10, E65, E66, E67, E118, E119, E120, E121, E122, E123, E95, E96, E97, E98, E101, E102, E103, E104, E105, E106, (E107 r5), E108, E109, E124], [B11], H9⟩ (st_call (d := (some 94)) (fz := false) (pure := true) (own := false) (S142 r5) (ok_types_Table_Get H9 c43) (by generalize r5 = qp0; cases qp0 <;> kernel_rfl) (by generalize r5 = qp0; cases qp0 <;> kernel_rfl)) ?_
  refine d_take ⟨[(E3 r5), E6, E10, E65, E66, E67, E118, E119, E120, E121, E122, E123, E95, E96, E97, E98, E101, E102, E103, E104, E105, E106, (E107 r5), E108, E109, E124, E125], [B11], H9⟩ (by generalize r5 = qp0; cases qp0 <;> kernel_rfl) ?_
  refine d_take ⟨[(E3 r5), E6, E10, E65, E66, E67, E118, E119, E120, E121, E122, E123, E95, E96, E97, E98, E101, E102, E103, E104, E105, E106, (E107 r5), E108, E109, E124, E125, E126], [B11], H9⟩ (by generalize r5 = qp0; cases qp0 <;> kernel_rfl) ?_
  refine d_take ⟨[(E3 r5), E6, E10, E65, E66, E67, E118, E119, E120, E121, E122, E123, E95, E96, E97, E98, E101, E102, E103, E104, E105, E106, (E107 r5), E108, E109, E124, E125, E126, E127], [B11], H9⟩ (by generalize r5 = qp0; cases qp0 <;> kernel_rfl) ?_
  refine d_take ⟨[(E3 r5), E6, E10, E65, E66, E67, E118, E119, E120, E121, E122, E123, E95, E96, E97, E98, E101, E102, E103, E104, E105, E106, (E107 r5), E108, E109, E124, E125, E126, E127, E128], [B11], H9⟩ (by generalize r5 = qp0; cases qp0 <;> kernel_rfl) ?_
  refine d_take ⟨[(E3 r5), E6, E10, E65, E66, E67, E118, E119, E120, E121, E122, E123, E95, E96, E97, E98, E101, E102, E103, E104, E105, E106, (E107 r5), E108, E109, E124, E125, E126, E127, E128, (99, .one .top (.bool (r15.Size_ != (IntKind.wrap .i64 (r15.Len_ * r42.Size_)))))], [B11], H9⟩ (by generalize r5 = qp0; cases qp0 <;> kernel_rfl) ?_
  cases hB45
  exact d_end (by kernel_rfl)
  refine d_eq (congrArg (fun q => (⟨[(E3 r5), E6, E10, E65, E66, E67, E118, E119, E120, E121, E122, E123, E95, E96, E97, E98, (85, .one .top (.bool q)), (86, .one .top (.bool q))], [B11], H9⟩ : St)) h41) ?_
  refine d_take ⟨[(E3 r5), E6, E10, E65, E66, E67, E118, E119, E120, E121, E122, E123, E95, E96, E97, E98, E115, E116, E83], [B11], H9⟩ (by generalize r5 = qp0; cases qp0 <;> kernel_rfl) ?_
  refine d_take ⟨[(E3 r5), E6, E10, E65, E66, E67, E118, E119, E120, E121, E122, E123, E95, E96, E97, E98, E115, E116, E83, E84], [B11], H9⟩ (by generalize r5 = qp0; cases qp0 <;> kernel_rfl) ?_
  refine d_take ⟨[(E3 r5), E6, E10, E65, E66, E67, E118, E119, E120, E121, E122, E123, E95, E96, E97, E98, E115, E116, E83, E84, E85], [B11], H9⟩ (by generalize r5 = qp0; cases qp0 <;> kernel_rfl) ?_
  refine d_take ⟨[(E3 r5), E6, E10, E65, E66, E67, E118, E119, E120, E121, E122, E123, E95, E96, E97, E98, E115, E116, E83, E84, E85, E86], [B11], H9⟩ (by generalize r5 = qp0; cases qp0 <;> kernel_rfl) ?_
  refine d_take ⟨[(E3 r5), E6, E10, E65, E66, E67, E118, E119, E120, E121, E122, E123, E95, E96, E97, E98, E115, E116, E83, E84, E85, E86, E87], [B11], H9⟩ (by generalize r5 = qp0; cases qp0 <;> kernel_rfl) ?_
  refine d_take ⟨[(E3 r5), E6, E10, E65, E66, E67, E118, E119, E120, E121, E122, E123, E95, E96, E97, E98, E115, E116, E83, E84, E85, E86, E87, E88], [B11], H9⟩ (by generalize r5 = qp0; cases qp0 <;> kernel_rfl) ?_
  refine d_take ⟨[(E3 r5), E6, E10, E65, E66, E67, E118, E119, E120, E121, E122, E123, E95, E96, E97, E98, E115, E116, E83, E84, E85, E86, E87, E88, E89], [B11], H9⟩ (by generalize r5 = qp0; cases qp0 <;> kernel_rfl) ?_
  refine d_last ⟨[(E3 r5), E6, E10, E65, E66, E67, E118, E119, E120, E121, E122, E123, E95, E96, E97, E98, E115, E116, E83, E84, E85, E86, E87, E88, E89, E90], [B11], H9⟩ (by generalize r5 = qp0; cases qp0 <;> kernel_rfl) ?_
  refine d_take ⟨[(E3 r5), E6, E10, E65, E66, E67, E118, E119, E120, E121, E122, E123, E95, E96, E97, E98, E115, E116, E83, E84, E85, E86, E87, E88, E89, E90, E91], [B11], H9⟩ (by generalize r5 = qp0; cases qp0 <;> kernel_rfl) ?_
  refine d_take ⟨[(E3 r5), E6, E10, E65, E66, E67, E118, E119, E120, E121, E122, E123, E95, E96, E97, E98, E115, E116, E83, E84, E85, E86, E87, E88, E89, E90, E91, E92], [B11], H9⟩ (by generalize r5 = qp0; cases qp0 <;> kernel_rfl) ?_
  refine d_take ⟨[(E3 r5), E6, E10, E65, E66, E67, E118, E119, E120, E121, E122, E123, E95, E96, E97, E98, E115, E116, E83, E84, E85, E86, E87, E88, E89, E90, E91, E92, E93], [B11], H9⟩ (by generalize r5 = qp0; cases qp0 <;> kernel_rfl) ?_
  refine d_take ⟨[(E3 r5), E6, E10, E65, E66, E67, E118, E119, E120, E121, E122, E123, E95, E96, E97, E98, E115, E116, E83, E84, E85, E86, E87, E88, E89, E90, E91, E92, E93, E117], [B11], H9⟩ (by generalize r5 = qp0; cases qp0 <;> kernel_rfl) ?_
  refine d_take ⟨[(E3 r5), E6, E10, E65, E66, E67, E118, E119, E120, E121, E122, E123, E95, E96, E97, E98, E115, E116, E83, E84, E85, E86, E87, E88, E89, E90, E91, E92, E93, E117, (99, .one .top (.bool false))], [B11], H9⟩ (by generalize r5 = qp0; cases qp0 <;> kernel_rfl) ?_
  cases hB45
  exact d_end (by kernel_rfl)
  rcases if_inv hF with ⟨h46, hF⟩ | ⟨h46, hF⟩
  refine w_cT (m := .top) h46 (s1 := S130) (by kernel_rfl) (by kernel_rfl) ?_
  refine w_seq ?_
  refine w_reg S131 (by kernel_rfl) ?_
  refine w_ret ?_
  cases hF
  exact ⟨_, rfl, (by kernel_rfl)⟩
  refine w_cF (m := .top) h46 (s1 := (S133 r5)) (by kernel_rfl) (by kernel_rfl) ?_
  refine w_skip ?_
  refine w_reg ⟨[(E3 r5), (6, .one .top (.int .i64 (IntKind.wrap .i64 (a11 + 1))))], [], H9⟩ (by generalize r5 = qp0; cases qp0 <;> kernel_rfl) ?_
  cases hF
  exact ⟨_, rfl, (by kernel_rfl)⟩
  refine w_or (s := S131) (by kernel_rfl) ?_
  cases hF
  exact ⟨_, rfl, (by kernel_rfl)⟩
  refine w_cF (m := .top) h14 (s1 := S130) (by kernel_rfl) (by kernel_rfl) ?_
  refine w_exit ?_
  cases hF
  exact ⟨_, rfl, (by kernel_rfl)⟩
  rcases sum2_inv hF with ⟨r47', rfl, hF⟩ | ⟨r47', rfl, hF⟩
  refine w_oe (i := 0) (s := S130) (by kernel_rfl) ?_
  refine e_here ?_
  refine w_seq ?_
  refine w_reg ⟨[(2, .one .top (.bool true))], [], H9⟩ (by kernel_rfl) ?_
  refine w_ret ?_
  obtain ⟨e0, e1⟩ := some2_inv hF
  subst e0
  subst e1
  exact fin_imp (v := .one .top (.bool true)) (by kernel_rfl) (by kernel_rfl) (by kernel_rfl)
  refine w_or (s := S131) (by kernel_rfl) ?_
  obtain ⟨e0, e1⟩ := some2_inv hF
  subst e0
  subst e1
  exact fin_imp (v := .one .top (.bool false)) (by kernel_rfl) (by kernel_rfl) (by kernel_rfl)
end Go.Proofs.Abs
