/- The law ItemOuts: whatever the input, it answers true. No conditions. (Part ItemOutsF4 of its proof.) -/
import Derived.Test.YtjheniapmdcelaaItemOutsF3
set_option linter.unusedVariables false
set_option linter.unusedSimpArgs false
set_option linter.unusedSectionVars false
/- Printed by gen (walk.py). -/
namespace Go.Proofs.Abs
open Go Go.Proofs
set_option linter.unusedVariables false
set_option maxRecDepth 100000
set_option maxHeartbeats 0
noncomputable def law19_ItemOuts (H : Heap) (p0 : Int) (p1 : (Arr 2 Int)) (p2 : Int) : Option (Heap × Bool) :=
  bind2 (law19_awake H) fun H3 r1 =>
  if (!r1) = true then (some (H3, false))
  else (bind2 (law19_begun H3) fun H7 r5 =>
  (r5).bnd fun i8 o9 =>
  bind1 (get_item_Gen H7 i8 o9) fun x11 =>
  bind1 (emit_Code_Number H7 x11.Code_ 0 p0) fun H14 =>
  bind1 (item_Gen_Out H14 (Ptr.at i8 o9) (IntKind.wrap .i64 (p1.g 0))) fun H16 =>
  bind1 (item_Gen_Log H16 (Ptr.at i8 o9) (IntKind.wrap .i64 (p1.g 0)) (IntKind.wrap .i64 (p1.g 1))) fun H18 =>
  bind1 (item_Gen_Out H18 (Ptr.at i8 o9) 1) fun H20 =>
  bind1 (item_Gen_Raise H20 (Ptr.at i8 o9) (T_scope_Object.mk ByteArray.empty 7 0 0 p2 (-1) false ([] : List T_api_Param))) fun H22 =>
  bind3 (law19_ended H22 (Ptr.at i8 o9) 0) fun H26 r23 r24 =>
  if (!r24) = true then (some (H26, false))
  else (bind1 (law19_run (Ptr.at i8 o9) r23) fun r28 =>
  if ((r28.State_ != 1) || ((r28.Cause_ != (IntKind.wrap .u32 p2)) || ((r28.Out_.length : Int) != 3))) = true then (some (H26, false))
  else (bind1 (gi r28.Out_ 0) fun x33 =>
  bind1 (if (eq_api_Event x33 (T_api_Event.mk (IntKind.wrap .i64 (p1.g 0)) p0)) = true then (bind1 (gi r28.Out_ 1) fun x36 =>
  if (eq_api_Event x36 (T_api_Event.mk (IntKind.wrap .i64 (p1.g 0)) (IntKind.wrap .i32 (p1.g 1)))) = true then (bind1 (gi r28.Out_ 2) fun x39 =>
  some (eq_api_Event x39 (T_api_Event.mk 1 p0))) else (some false)) else (some false)) fun w41 =>
  some (H26, w41))))
theorem ok_law19_ItemOuts (H : Heap) {p0 : Int} {p1 : (Arr 2 Int)} {p2 : Int} {ra : Bool} {Hr : Heap} (hF : law19_ItemOuts H p0 p1 p2 = some (Hr, ra)) : evS X 7 [.one .top (.int .i32 p0), .agg [(.top, .int .u16 (p1.g 0)), (.top, .int .u16 (p1.g 1))], .one .top (.int .i32 p2)] H = some (.one .top (.bool ra), Hr) := by
  let E1 : EN := (0, .one .top (.int .i32 p0))
  let E2 : EN := (2, .one .top (.int .i32 p2))
  let E3 : EN := (4, .one .top (.loc 4 0))
  let B4 : EB := (4, [(.top, .int .u16 (p1.g 0)), (.top, .int .u16 (p1.g 1))])
  let E6 : EN := (6, .one .top (.bool false))
  let E7 : EN := (7, .one .top (.int .u16 (p1.g 0)))
  let E8 : EN := (8, .one .top (.int .u16 (p1.g 1)))
  let E9 : EN := (15, .one .top (.loc 4 0))
  let E10 : EN := (16, .one .top (.int .u16 (p1.g 0)))
  let E11 : EN := (17, .one .top (.loc 4 1))
  let E12 : EN := (18, .one .top (.int .u16 (p1.g 1)))
  let E19 : EN := (24, .one .top (.int .i32 p0))
  let E21 : EN := (27, .one .top (.int .u16 (p1.g 0)))
  let E22 : EN := (28, .one .top (.int .i64 (IntKind.wrap .i64 (p1.g 0))))
  let E24 : EN := (31, .one .top (.int .u16 (p1.g 0)))
  let E25 : EN := (32, .one .top (.int .i64 (IntKind.wrap .i64 (p1.g 0))))
  let E26 : EN := (33, .one .top (.int .u16 (p1.g 1)))
  let E27 : EN := (34, .one .top (.int .i64 (IntKind.wrap .i64 (p1.g 1))))
  let E30 : EN := (39, .one .top (.int .i32 p2))
  let E31 : EN := (40, .agg [(.top, .str ByteArray.empty), (.top, .int .i64 7), (.top, .int .i64 0), (.top, .int .i64 0), (.top, .int .i32 p2), (.top, .int .i64 (-1)), (.top, .bool false), (.top, .junk)])
  let E36 : EN := (12, .one .top (.loc 12 0))
  let E41 : EN := (52, .one .top (.loc 12 19))
  let E43 : EN := (61, .one .top (.bool true))
  let E44 : EN := (62, .one .top (.bool true))
  let E45 : EN := (67, .one .top (.bool true))
  let E46 : EN := (54, .one .top (.bool false))
  let E47 : EN := (55, .one .top (.bool false))
  let E48 : EN := (56, .one .top (.loc 12 18))
  let E50 : EN := (58, .one .top (.int .i32 p2))
  let E51 : EN := (59, .one .top (.int .u32 (IntKind.wrap .u32 p2)))
  let E52 : EN := (60, .one .top (.bool false))
  let E53 : EN := (61, .one .top (.bool false))
  let E54 : EN := (62, .one .top (.bool false))
  let E55 : EN := (63, .one .top (.loc 12 23))
  let E58 : EN := (68, .one .top (.loc 12 23))
  let E62 : EN := (72, .one .top (.int .u16 (p1.g 0)))
  let E63 : EN := (73, .one .top (.int .i64 (IntKind.wrap .i64 (p1.g 0))))
  let E64 : EN := (74, .one .top (.int .i32 p0))
  let E65 : EN := (75, .agg [(.top, .int .i64 (IntKind.wrap .i64 (p1.g 0))), (.top, .int .i32 p0)])
  let E67 : EN := (76, .one .top (.bool true))
  let E68 : EN := (77, .one .top (.bool true))
  let E69 : EN := (78, .one .top (.loc 12 23))
  let E73 : EN := (82, .one .top (.int .u16 (p1.g 0)))
  let E74 : EN := (83, .one .top (.int .i64 (IntKind.wrap .i64 (p1.g 0))))
  let E75 : EN := (84, .one .top (.int .u16 (p1.g 1)))
  let E76 : EN := (85, .one .top (.int .i32 (IntKind.wrap .i32 (p1.g 1))))
  let E77 : EN := (86, .agg [(.top, .int .i64 (IntKind.wrap .i64 (p1.g 0))), (.top, .int .i32 (IntKind.wrap .i32 (p1.g 1)))])
  let E79 : EN := (87, .one .top (.bool true))
  let E80 : EN := (88, .one .top (.bool true))
  let E81 : EN := (89, .one .top (.bool true))
  let E82 : EN := (90, .one .top (.loc 12 23))
  let E86 : EN := (94, .one .top (.int .i32 p0))
  let E87 : EN := (95, .agg [(.top, .int .i64 1), (.top, .int .i32 p0)])
  let E89 : EN := (88, .one .top (.bool false))
  let E90 : EN := (89, .one .top (.bool false))
  let E91 : EN := (97, .one .top (.bool false))
  let S92 : St := ⟨[E1, E2, E3], [B4], H⟩
  refine w_fun Try.func7 rfl (by kernel_rfl) false (by kernel_rfl) (s0 := (⟨[E1, (1, .agg [(.top, .int .u16 (p1.g 0)), (.top, .int .u16 (p1.g 1))]), E2], [], H⟩ : St)) (by kernel_rfl) ?_
  unfold law19_ItemOuts at hF
  refine w_seq ?_
  refine w_reg S92 (by kernel_rfl) ?_
  refine w_seq ?_
  refine w_seq ?_
  obtain ⟨H3, r1, c2, hF⟩ := bind2_inv hF
  let E5 : EN := (14, .one .top (.bool (!r1)))
  let S93 : St := ⟨[E1, E2, E7, E8], [], H3⟩
  refine w_regO ⟨[E1, E2, E3, E5], [B4], H3⟩ ?_ ?_
  refine o_one ⟨[E1, E2, E3, (13, .one .top (.bool r1))], [B4], H3⟩ (st_call (d := (some 13)) (fz := false) (pure := false) (own := false) S92 (ok_law19_awake H c2) (by kernel_rfl) (by kernel_rfl)) ?_
  refine o_run 1 ⟨[E1, E2, E3, (13, .one .top (.bool r1)), E5], [B4], H3⟩ (by kernel_rfl) (by kernel_rfl) ?_
  exact o_end (by kernel_rfl) (by kernel_rfl)
  rcases if_inv hF with ⟨h4, hF⟩ | ⟨h4, hF⟩
  refine w_cT (m := .top) h4 (s1 := (⟨[], [], H3⟩ : St)) (by kernel_rfl) (by kernel_rfl) ?_
  refine w_seq ?_
  refine w_reg ⟨[E6], [], H3⟩ (by kernel_rfl) ?_
  refine w_ret ?_
  obtain ⟨e0, e1⟩ := some2_inv hF
  subst e0
  subst e1
  exact fin_imp (v := .one .top (.bool false)) (by kernel_rfl) (by kernel_rfl) (by kernel_rfl)
  refine w_cF (m := .top) h4 (s1 := (⟨[E1, E2, E3], [B4], H3⟩ : St)) (by kernel_rfl) (by kernel_rfl) ?_
  refine w_skip ?_
  refine w_seq ?_
  refine w_regD (.take 0 (.take 1 (.take 2 (.take 3 (.take 4 (.take 5 .done)))))) (by kernel_rfl) S93 ?_ ?_
  refine d_take ⟨[E1, E2, E3, E9], [B4], H3⟩ (by kernel_rfl) ?_
  refine d_take ⟨[E1, E2, E3, E9, E10], [B4], H3⟩ (by kernel_rfl) ?_
  refine d_take ⟨[E1, E2, E3, E9, E10, E11], [B4], H3⟩ (by kernel_rfl) ?_
  refine d_take ⟨[E1, E2, E3, E9, E10, E11, E12], [B4], H3⟩ (by kernel_rfl) ?_
  refine d_take ⟨[E1, E2, E3, E7, E9, E10, E11, E12], [B4], H3⟩ (by kernel_rfl) ?_
  refine d_take ⟨[E1, E2, E3, E7, E8, E9, E10, E11, E12], [B4], H3⟩ (by kernel_rfl) ?_
  exact d_end (by kernel_rfl)
  refine w_seq ?_
  obtain ⟨H7, r5, c6, hF⟩ := bind2_inv hF
  let E13 : Ptr → EN := fun z0 => (9, .one .top (Ptr.av z0))
  let E14 : Ptr → EN := fun z0 => (19, .one .top (Ptr.av z0))
  refine w_regO ⟨[E1, E2, E7, E8, (E13 r5)], [], H7⟩ ?_ ?_
  refine o_one ⟨[E1, E2, E7, E8, (E14 r5)], [], H7⟩ (st_call (d := (some 19)) (fz := false) (pure := false) (own := false) S93 (ok_law19_begun H3 c6) (by generalize r5 = qp0; cases qp0 <;> kernel_rfl) (by generalize r5 = qp0; cases qp0 <;> kernel_rfl)) ?_
  refine o_run 1 ⟨[E1, E2, E7, E8, (E13 r5), (E14 r5)], [], H7⟩ (by kernel_rfl) (by generalize r5 = qp0; cases qp0 <;> kernel_rfl) ?_
  exact o_end (by kernel_rfl) (by kernel_rfl)
  refine w_seq ?_
  obtain ⟨i8, o9, h10, hF⟩ := pbnd_inv hF
  let E15 : EN := (9, .one .top (.obj i8 o9))
  let E16 : EN := (20, .one .top (.obj i8 o9))
  let E17 : EN := (21, .one .top (.obj i8 o9))
  let E18 : EN := (22, .one .top (.obj i8 o9))
  let E20 : EN := (26, .one .top (.obj i8 o9))
  let E23 : EN := (30, .one .top (.obj i8 o9))
  let E28 : EN := (36, .one .top (.obj i8 o9))
  let E29 : EN := (38, .one .top (.obj i8 o9))
  let E34 : EN := (43, .one .top (.obj i8 o9))
  let E38 : EN := (49, .one .top (.obj i8 o9))
  let S94 : St := ⟨[E1, E2, E7, E8, E15, E16, E17, E18], [], H7⟩
  obtain ⟨x11, V12, hF⟩ := bind1_inv hF
  replace V12 := hgetT_inv V12
  obtain ⟨H14, c13, hF⟩ := bind1_inv hF
  let S95 : St := ⟨[E1, E2, E7, E8, E15, E20, E21, E22], [], H14⟩
  refine w_regO ⟨[E1, E2, E7, E8, E15], [], H14⟩ ?_ ?_
  refine o_run 1 ⟨[E1, E2, E7, E8, (E13 r5), (20, .one .top (Ptr.av r5))], [], H7⟩ (by kernel_rfl) (by generalize r5 = qp0; cases qp0 <;> kernel_rfl) ?_
  refine o_eq (congrArg (fun q => (⟨[E1, E2, E7, E8, (9, .one .top (Ptr.av q)), (20, .one .top (Ptr.av q))], [], H7⟩ : St)) h10) ?_
  refine o_run 1 ⟨[E1, E2, E7, E8, E15, E16, E17], [], H7⟩ (by kernel_rfl) (by kernel_rfl) ?_
  refine o_run 1 S94 (by kernel_rfl) (by generalize x11.Code_ = qp0; generalize x11.Proc_.frame_ = qp1; cases qp0 <;> cases qp1 <;> kernel_rfl) ?_
  refine o_one ⟨[E1, E2, E7, E8, E15, E16, E17, E18, (23, .one .top (Ptr.av x11.Code_))], [], H7⟩ (st_ld (X := X) S94 26 V12 0 1 false (.one .top (Ptr.av x11.Code_)) (some 23) (by kernel_rfl) (by kernel_rfl) (by kernel_rfl) (by kernel_rfl) (by kernel_rfl) (by generalize x11.Code_ = qp0; generalize x11.Proc_.frame_ = qp1; cases qp0 <;> cases qp1 <;> kernel_rfl)) ?_
  refine o_run 1 ⟨[E1, E2, E7, E8, E15, E16, E17, E18, (23, .one .top (Ptr.av x11.Code_)), E19], [], H7⟩ (by kernel_rfl) (by generalize x11.Code_ = qp0; generalize x11.Proc_.frame_ = qp1; cases qp0 <;> cases qp1 <;> kernel_rfl) ?_
  refine o_one ⟨[E1, E2, E7, E8, E15, E16, E17, E18, (23, .one .top (Ptr.av x11.Code_)), E19, (25, .tup [])], [], H14⟩ (st_call (d := (some 25)) (fz := false) (pure := false) (own := false) (⟨[E1, E2, E7, E8, E15, E16, E17, E18, (23, .one .top (Ptr.av x11.Code_)), E19], [], H7⟩ : St) (ok_emit_Code_Number H7 c13) (by generalize x11.Code_ = qp0; generalize x11.Proc_.frame_ = qp1; cases qp0 <;> cases qp1 <;> kernel_rfl) (by generalize x11.Code_ = qp0; generalize x11.Proc_.frame_ = qp1; cases qp0 <;> cases qp1 <;> kernel_rfl)) ?_
  exact o_end (by kernel_rfl) (by kernel_rfl)
  refine w_seq ?_
  obtain ⟨H16, c15, hF⟩ := bind1_inv hF
  let S96 : St := ⟨[E1, E2, E7, E8, E15, E23, E24, E25, E26, E27], [], H16⟩
  refine w_regO ⟨[E1, E2, E7, E8, E15], [], H16⟩ ?_ ?_
  refine o_run 3 S95 (by kernel_rfl) (by kernel_rfl) ?_
  refine o_one ⟨[E1, E2, E7, E8, E15, E20, E21, E22, (29, .tup [])], [], H16⟩ (st_call (d := (some 29)) (fz := false) (pure := false) (own := false) S95 (ok_item_Gen_Out H14 c15) (by kernel_rfl) (by kernel_rfl)) ?_
  exact o_end (by kernel_rfl) (by kernel_rfl)
  refine w_seq ?_
  obtain ⟨H18, c17, hF⟩ := bind1_inv hF
  let S97 : St := ⟨[E1, E2, E7, E8, E15, E28], [], H18⟩
  refine w_regO ⟨[E1, E2, E7, E8, E15], [], H18⟩ ?_ ?_
  refine o_run 5 S96 (by kernel_rfl) (by kernel_rfl) ?_
  refine o_one ⟨[E1, E2, E7, E8, E15, E23, E24, E25, E26, E27, (35, .tup [])], [], H18⟩ (st_call (d := (some 35)) (fz := false) (pure := false) (own := false) S96 (ok_item_Gen_Log H16 c17) (by kernel_rfl) (by kernel_rfl)) ?_
  exact o_end (by kernel_rfl) (by kernel_rfl)
  refine w_seq ?_
  obtain ⟨H20, c19, hF⟩ := bind1_inv hF
  refine w_regO ⟨[E1, E2, E7, E8, E15], [], H20⟩ ?_ ?_
  refine o_run 1 S97 (by kernel_rfl) (by kernel_rfl) ?_
  refine o_one ⟨[E1, E2, E7, E8, E15, E28, (37, .tup [])], [], H20⟩ (st_call (d := (some 37)) (fz := false) (pure := false) (own := false) S97 (ok_item_Gen_Out H18 c19) (by kernel_rfl) (by kernel_rfl)) ?_
  exact o_end (by kernel_rfl) (by kernel_rfl)
  refine w_seq ?_
  obtain ⟨H22, c21, hF⟩ := bind1_inv hF
  let S98 : St := ⟨[E1, E2, E7, E8, E15, E34], [], H22⟩
  refine w_regO ⟨[E1, E2, E7, E8, E15], [], H22⟩ ?_ ?_
  refine o_run 3 ⟨[E1, E2, E7, E8, E15, E29, E30, (40, .agg [(.top, .str ByteArray.empty), (.top, .int .i64 7), (.top, .int .i64 0), (.top, .int .i64 0), (.top, .int .i32 p2), (.top, .int .i64 (-1)), (.top, .bool false), ((.own 1), .sl 2 (List.map e_api_Param ([] : List T_api_Param)))])], [], H20⟩ (by kernel_rfl) (by kernel_rfl) ?_
  refine o_one ⟨[E1, E2, E7, E8, E15, E29, E30, E31, (41, .tup [])], [], H22⟩ (st_call (d := (some 41)) (fz := false) (pure := false) (own := true) (⟨[E1, E2, E7, E8, E15, E29, E30, E31], [], H20⟩ : St) (ok_item_Gen_Raise H20 c21) (by kernel_rfl) (by kernel_rfl)) ?_
  exact o_end (by kernel_rfl) (by kernel_rfl)
  refine w_seq ?_
  obtain ⟨H26, r23, r24, c25, hF⟩ := bind3_inv hF
  let E32 : EN := (10, .one .bl (.sl 1 (List.map (eI .u32) r23)))
  let E33 : EN := (11, .one .top (.bool r24))
  let E35 : EN := (44, .tup [.one (.own 1) (.sl 1 (List.map (eI .u32) r23)), .one .top (.bool r24)])
  let E39 : EN := (50, .one .bl (.sl 1 (List.map (eI .u32) r23)))
  let S99 : St := ⟨[E1, E2, E7, E8, E15, E32, E38, E39], [], H26⟩
  refine w_regO ⟨[E1, E2, E7, E8, E15, E32, E33], [], H26⟩ ?_ ?_
  refine o_run 1 S98 (by kernel_rfl) (by kernel_rfl) ?_
  refine o_one ⟨[E1, E2, E7, E8, E15, E34, E35], [], H26⟩ (st_call (d := (some 44)) (fz := false) (pure := false) (own := false) S98 (ok_law19_ended H22 c25) (by kernel_rfl) (by kernel_rfl)) ?_
  refine o_run 5 ⟨[E1, E2, E7, E8, E15, E32, E33, (42, .tup [.one .bl (.sl 1 (List.map (eI .u32) r23)), .one .top (.bool r24)]), E34, E35, (45, .one .bl (.sl 1 (List.map (eI .u32) r23))), (46, .one .top (.bool r24))], [], H26⟩ (by kernel_rfl) (by kernel_rfl) ?_
  exact o_end (by kernel_rfl) (by kernel_rfl)
  refine w_seq ?_
  refine w_seq ?_
  refine w_reg ⟨[E1, E2, E7, E8, E15, E32, (48, .one .top (.bool (!r24)))], [], H26⟩ (by kernel_rfl) ?_
  rcases if_inv hF with ⟨h27, hF⟩ | ⟨h27, hF⟩
  refine w_cT (m := .top) h27 (s1 := (⟨[], [], H26⟩ : St)) (by kernel_rfl) (by kernel_rfl) ?_
  refine w_seq ?_
  refine w_reg ⟨[E6], [], H26⟩ (by kernel_rfl) ?_
  refine w_ret ?_
  obtain ⟨e0, e1⟩ := some2_inv hF
  subst e0
  subst e1
  exact fin_imp (v := .one .top (.bool false)) (by kernel_rfl) (by kernel_rfl) (by kernel_rfl)
  refine w_cF (m := .top) h27 (s1 := (⟨[E1, E2, E7, E8, E15, E32], [], H26⟩ : St)) (by kernel_rfl) (by kernel_rfl) ?_
  refine w_skip ?_
  refine w_seq ?_
  obtain ⟨r28, c29, hF⟩ := bind1_inv hF
  let B37 : EB := (12, (m1_ref04_Cpu r28))
  let E40 : EN := (51, .agg (m1_ref04_Cpu r28))
  let E42 : EN := (53, .one .top (.int .i64 r28.State_))
  let E49 : EN := (57, .one .top (.int .u32 r28.Cause_))
  let E56 : EN := (64, .one (.own 0) (.sl 2 (List.map e_api_Event r28.Out_)))
  let E57 : EN := (65, .one .top (.int .i64 (r28.Out_.length : Int)))
  let E59 : EN := (69, .one (.own 0) (.sl 2 (List.map e_api_Event r28.Out_)))
  let E70 : EN := (79, .one (.own 0) (.sl 2 (List.map e_api_Event r28.Out_)))
  let E83 : EN := (91, .one (.own 0) (.sl 2 (List.map e_api_Event r28.Out_)))
  let S100 : St := ⟨[E1, E2, E7, E8, E36, E41, E42, E46, E47, E48, E49, E50, E51, E52, E53, E54, E55, E56], [B37], H26⟩
  let S101 : St := ⟨[E1, E7, E8, E36, E58, E59], [B37], H26⟩
  refine w_regO ⟨[E1, E2, E7, E8, E36], [B37], H26⟩ ?_ ?_
  refine o_run 2 S99 (by kernel_rfl) (by kernel_rfl) ?_
  refine o_one ⟨[E1, E2, E7, E8, E15, E32, E38, E39, E40], [], H26⟩ (st_call (d := (some 51)) (fz := false) (pure := true) (own := false) S99 (ok_law19_run H26 c29) (by kernel_rfl) (by kernel_rfl)) ?_
  refine o_run 2 ⟨[E1, E2, E7, E8, E15, E32, E36, E38, E39, E40], [B37], H26⟩ (by kernel_rfl) (by kernel_rfl) ?_
  exact o_end (by kernel_rfl) (by kernel_rfl)
  refine w_seq ?_
  refine w_seq ?_
  refine w_regO ⟨[E1, E7, E8, E36, (67, .one .top (.bool ((r28.State_ != 1) || ((r28.Cause_ != (IntKind.wrap .u32 p2)) || ((r28.Out_.length : Int) != 3)))))], [B37], H26⟩ ?_ ?_
  refine o_run 4 ⟨[E1, E2, E7, E8, E36, E41, E42, (54, .one .top (.bool (r28.State_ != 1))), (55, .one .top (.bool (r28.State_ != 1)))], [B37], H26⟩ (by kernel_rfl) (by kernel_rfl) ?_
  rcases bool_cases (r28.State_ != 1) with h30 | h30
  refine o_eq (congrArg (fun q => (⟨[E1, E2, E7, E8, E36, E41, E42, (54, .one .top (.bool q)), (55, .one .top (.bool q))], [B37], H26⟩ : St)) h30) ?_
  refine o_run 12 ⟨[E1, E2, E7, E8, E36, E41, E42, (54, .one .top (.bool true)), (55, .one .top (.bool true)), (56, .tup []), (57, .tup []), (58, .tup []), (59, .tup []), (60, .tup []), E43, E44, (63, .tup []), (64, .tup []), (65, .tup []), (66, .tup []), E45], [B37], H26⟩ (by kernel_rfl) (by kernel_rfl) ?_
  refine o_eq2 (congrArg (fun q0 => (⟨[E1, E7, E8, E36, (67, .one .top (.bool q0))], [B37], H26⟩ : St)) (show true = ((r28.State_ != 1) || ((r28.Cause_ != (IntKind.wrap .u32 p2)) || ((r28.Out_.length : Int) != 3))) by simp [h30])) ?_
  exact o_end (by kernel_rfl) (by kernel_rfl)
  refine o_eq (congrArg (fun q => (⟨[E1, E2, E7, E8, E36, E41, E42, (54, .one .top (.bool q)), (55, .one .top (.bool q))], [B37], H26⟩ : St)) h30) ?_
  refine o_run 7 ⟨[E1, E2, E7, E8, E36, E41, E42, E46, E47, E48, E49, E50, E51, (60, .one .top (.bool (r28.Cause_ != (IntKind.wrap .u32 p2)))), (61, .one .top (.bool (r28.Cause_ != (IntKind.wrap .u32 p2)))), (62, .one .top (.bool (r28.Cause_ != (IntKind.wrap .u32 p2))))], [B37], H26⟩ (by kernel_rfl) (by kernel_rfl) ?_
  rcases bool_cases (r28.Cause_ != (IntKind.wrap .u32 p2)) with h31 | h31
  refine o_eq (congrArg (fun q => (⟨[E1, E2, E7, E8, E36, E41, E42, E46, E47, E48, E49, E50, E51, (60, .one .top (.bool q)), (61, .one .top (.bool q)), (62, .one .top (.bool q))], [B37], H26⟩ : St)) h31) ?_
  refine o_run 5 ⟨[E1, E2, E7, E8, E36, E41, E42, E46, E47, E48, E49, E50, E51, (60, .one .top (.bool true)), E43, E44, (63, .tup []), (64, .tup []), (65, .tup []), (66, .tup []), E45], [B37], H26⟩ (by kernel_rfl) (by kernel_rfl) ?_
  refine o_eq2 (congrArg (fun q0 => (⟨[E1, E7, E8, E36, (67, .one .top (.bool q0))], [B37], H26⟩ : St)) (show true = ((r28.State_ != 1) || ((r28.Cause_ != (IntKind.wrap .u32 p2)) || ((r28.Out_.length : Int) != 3))) by simp [h30, h31])) ?_
  exact o_end (by kernel_rfl) (by kernel_rfl)
  refine o_eq (congrArg (fun q => (⟨[E1, E2, E7, E8, E36, E41, E42, E46, E47, E48, E49, E50, E51, (60, .one .top (.bool q)), (61, .one .top (.bool q)), (62, .one .top (.bool q))], [B37], H26⟩ : St)) h31) ?_
  refine o_run 2 S100 (by kernel_rfl) (by kernel_rfl) ?_
  refine o_one ⟨[E1, E2, E7, E8, E36, E41, E42, E46, E47, E48, E49, E50, E51, E52, E53, E54, E55, E56, E57], [B37], H26⟩ (st_len S100 r28.Out_ e_api_Event (some 65) (by kernel_rfl) (by kernel_rfl)) ?_
  refine o_run 2 ⟨[E1, E2, E7, E8, E36, E41, E42, E46, E47, E48, E49, E50, E51, E52, E53, E54, E55, E56, E57, (66, .one .top (.bool ((r28.Out_.length : Int) != 3))), (67, .one .top (.bool ((r28.Out_.length : Int) != 3)))], [B37], H26⟩ (by kernel_rfl) (by kernel_rfl) ?_
  refine o_eq2 (congrArg (fun q0 => (⟨[E1, E7, E8, E36, (67, .one .top (.bool q0))], [B37], H26⟩ : St)) (show ((r28.Out_.length : Int) != 3) = ((r28.State_ != 1) || ((r28.Cause_ != (IntKind.wrap .u32 p2)) || ((r28.Out_.length : Int) != 3))) by simp [h30, h31])) ?_
  exact o_end (by kernel_rfl) (by kernel_rfl)
  rcases if_inv hF with ⟨h32, hF⟩ | ⟨h32, hF⟩
  refine w_cT (m := .top) h32 (s1 := (⟨[], [], H26⟩ : St)) (by kernel_rfl) (by kernel_rfl) ?_
  refine w_seq ?_
  refine w_reg ⟨[E6], [], H26⟩ (by kernel_rfl) ?_
  refine w_ret ?_
  obtain ⟨e0, e1⟩ := some2_inv hF
  subst e0
  subst e1
  exact fin_imp (v := .one .top (.bool false)) (by kernel_rfl) (by kernel_rfl) (by kernel_rfl)
  refine w_cF (m := .top) h32 (s1 := (⟨[E1, E7, E8, E36], [B37], H26⟩ : St)) (by kernel_rfl) (by kernel_rfl) ?_
  refine w_skip ?_
  refine w_seq ?_
  obtain ⟨x33, h34, hF⟩ := bind1_inv hF
  let E60 : EN := (70, .one .top (.rd (.own 0) (.own 0) [.int .i64 x33.Port_, .int .i32 x33.Value_] 0))
  let E61 : EN := (71, .agg [(.top, .int .i64 x33.Port_), (.top, .int .i32 x33.Value_)])
  let E66 : EN := (76, .one .top (.bool (eq_api_Event x33 (T_api_Event.mk (IntKind.wrap .i64 (p1.g 0)) p0))))
  let S102 : St := ⟨[E1, E7, E8, E36, E58, E59, E60, E61, E62, E63, E64, E65], [B37], H26⟩
  let S103 : St := ⟨[E1, E7, E8, E36, E58, E59, E60, E61, E62, E63, E64, E65, E67, E68, E69, E70], [B37], H26⟩
  obtain ⟨w41, hB42, hF⟩ := bind1_inv hF
  refine w_regO ⟨[(6, .one .top (.bool w41))], [], H26⟩ ?_ ?_
  refine o_run 2 S101 (by kernel_rfl) (by kernel_rfl) ?_
  refine o_one ⟨[E1, E7, E8, E36, E58, E59, E60], [B37], H26⟩ (st_ix (X := X) S101 47 67 2 h34 e_api_Event (.own 0) (some 70) (by kernel_rfl) (by kernel_rfl) (by kernel_rfl) (by kernel_rfl)) ?_
  refine o_run 5 S102 (by kernel_rfl) (by kernel_rfl) ?_
  refine o_one ⟨[E1, E7, E8, E36, E58, E59, E60, E61, E62, E63, E64, E65, E66], [B37], H26⟩ (st_bin S102 (bin_eqA (P := X.P) (ty := 67) (x := (.tmp 71)) (y := (.tmp 75)) (cs := [(.top, .int .i64 x33.Port_), (.top, .int .i32 x33.Value_)]) (ds := [(.top, .int .i64 (IntKind.wrap .i64 (p1.g 0))), (.top, .int .i32 p0)]) (us := [.int .i64 x33.Port_, .int .i32 x33.Value_]) (vs := [.int .i64 (IntKind.wrap .i64 (p1.g 0)), .int .i32 p0]) (qs := [x33.Port_ == (IntKind.wrap .i64 (p1.g 0)), x33.Value_ == p0]) (by kernel_rfl) (by kernel_rfl) (by kernel_rfl) (by kernel_rfl)) rfl (some 76) (by kernel_rfl) (by kernel_rfl)) ?_
  refine o_run 1 ⟨[E1, E7, E8, E36, E58, E59, E60, E61, E62, E63, E64, E65, E66, (77, .one .top (.bool (eq_api_Event x33 (T_api_Event.mk (IntKind.wrap .i64 (p1.g 0)) p0))))], [B37], H26⟩ (by kernel_rfl) (by kernel_rfl) ?_
  rcases if_inv hB42 with ⟨h35, hB42⟩ | ⟨h35, hB42⟩
  refine o_eq (congrArg (fun q => (⟨[E1, E7, E8, E36, E58, E59, E60, E61, E62, E63, E64, E65, (76, .one .top (.bool q)), (77, .one .top (.bool q))], [B37], H26⟩ : St)) h35) ?_
  refine o_run 2 S103 (by kernel_rfl) (by kernel_rfl) ?_
  obtain ⟨x36, h37, hB42⟩ := bind1_inv hB42
  let E71 : EN := (80, .one .top (.rd (.own 0) (.own 0) [.int .i64 x36.Port_, .int .i32 x36.Value_] 0))
  let E72 : EN := (81, .agg [(.top, .int .i64 x36.Port_), (.top, .int .i32 x36.Value_)])
  let E78 : EN := (87, .one .top (.bool (eq_api_Event x36 (T_api_Event.mk (IntKind.wrap .i64 (p1.g 0)) (IntKind.wrap .i32 (p1.g 1))))))
  let S104 : St := ⟨[E1, E7, E8, E36, E58, E59, E60, E61, E62, E63, E64, E65, E67, E68, E69, E70, E71, E72, E73, E74, E75, E76, E77], [B37], H26⟩
  let S105 : St := ⟨[E1, E7, E8, E36, E58, E59, E60, E61, E62, E63, E64, E65, E67, E68, E69, E70, E71, E72, E73, E74, E75, E76, E77, E79, E80, E81, E82, E83], [B37], H26⟩
  refine o_one ⟨[E1, E7, E8, E36, E58, E59, E60, E61, E62, E63, E64, E65, E67, E68, E69, E70, E71], [B37], H26⟩ (st_ix (X := X) S103 47 67 2 h37 e_api_Event (.own 0) (some 80) (by kernel_rfl) (by kernel_rfl) (by kernel_rfl) (by kernel_rfl)) ?_
  refine o_run 6 S104 (by kernel_rfl) (by kernel_rfl) ?_
  refine o_one ⟨[E1, E7, E8, E36, E58, E59, E60, E61, E62, E63, E64, E65, E67, E68, E69, E70, E71, E72, E73, E74, E75, E76, E77, E78], [B37], H26⟩ (st_bin S104 (bin_eqA (P := X.P) (ty := 67) (x := (.tmp 81)) (y := (.tmp 86)) (cs := [(.top, .int .i64 x36.Port_), (.top, .int .i32 x36.Value_)]) (ds := [(.top, .int .i64 (IntKind.wrap .i64 (p1.g 0))), (.top, .int .i32 (IntKind.wrap .i32 (p1.g 1)))]) (us := [.int .i64 x36.Port_, .int .i32 x36.Value_]) (vs := [.int .i64 (IntKind.wrap .i64 (p1.g 0)), .int .i32 (IntKind.wrap .i32 (p1.g 1))]) (qs := [x36.Port_ == (IntKind.wrap .i64 (p1.g 0)), x36.Value_ == (IntKind.wrap .i32 (p1.g 1))]) (by kernel_rfl) (by kernel_rfl) (by kernel_rfl) (by kernel_rfl)) rfl (some 87) (by kernel_rfl) (by kernel_rfl)) ?_
  refine o_run 2 ⟨[E1, E7, E8, E36, E58, E59, E60, E61, E62, E63, E64, E65, E67, E68, E69, E70, E71, E72, E73, E74, E75, E76, E77, E78, (88, .one .top (.bool (eq_api_Event x36 (T_api_Event.mk (IntKind.wrap .i64 (p1.g 0)) (IntKind.wrap .i32 (p1.g 1)))))), (89, .one .top (.bool (eq_api_Event x36 (T_api_Event.mk (IntKind.wrap .i64 (p1.g 0)) (IntKind.wrap .i32 (p1.g 1))))))], [B37], H26⟩ (by kernel_rfl) (by kernel_rfl) ?_
  rcases if_inv hB42 with ⟨h38, hB42⟩ | ⟨h38, hB42⟩
  refine o_eq (congrArg (fun q => (⟨[E1, E7, E8, E36, E58, E59, E60, E61, E62, E63, E64, E65, E67, E68, E69, E70, E71, E72, E73, E74, E75, E76, E77, (87, .one .top (.bool q)), (88, .one .top (.bool q)), (89, .one .top (.bool q))], [B37], H26⟩ : St)) h38) ?_
  refine o_run 2 S105 (by kernel_rfl) (by kernel_rfl) ?_
  obtain ⟨x39, h40, hB42⟩ := bind1_inv hB42
  let E84 : EN := (92, .one .top (.rd (.own 0) (.own 0) [.int .i64 x39.Port_, .int .i32 x39.Value_] 0))
  let E85 : EN := (93, .agg [(.top, .int .i64 x39.Port_), (.top, .int .i32 x39.Value_)])
  let E88 : EN := (96, .one .top (.bool (eq_api_Event x39 (T_api_Event.mk 1 p0))))
  let S106 : St := ⟨[E1, E7, E8, E36, E58, E59, E60, E61, E62, E63, E64, E65, E67, E68, E69, E70, E71, E72, E73, E74, E75, E76, E77, E79, E80, E81, E82, E83, E84, E85, E86, E87], [B37], H26⟩
  refine o_one ⟨[E1, E7, E8, E36, E58, E59, E60, E61, E62, E63, E64, E65, E67, E68, E69, E70, E71, E72, E73, E74, E75, E76, E77, E79, E80, E81, E82, E83, E84], [B37], H26⟩ (st_ix (X := X) S105 47 67 2 h40 e_api_Event (.own 0) (some 92) (by kernel_rfl) (by kernel_rfl) (by kernel_rfl) (by kernel_rfl)) ?_
  refine o_run 3 S106 (by kernel_rfl) (by kernel_rfl) ?_
  refine o_one ⟨[E1, E7, E8, E36, E58, E59, E60, E61, E62, E63, E64, E65, E67, E68, E69, E70, E71, E72, E73, E74, E75, E76, E77, E79, E80, E81, E82, E83, E84, E85, E86, E87, E88], [B37], H26⟩ (st_bin S106 (bin_eqA (P := X.P) (ty := 67) (x := (.tmp 93)) (y := (.tmp 95)) (cs := [(.top, .int .i64 x39.Port_), (.top, .int .i32 x39.Value_)]) (ds := [(.top, .int .i64 1), (.top, .int .i32 p0)]) (us := [.int .i64 x39.Port_, .int .i32 x39.Value_]) (vs := [.int .i64 1, .int .i32 p0]) (qs := [x39.Port_ == 1, x39.Value_ == p0]) (by kernel_rfl) (by kernel_rfl) (by kernel_rfl) (by kernel_rfl)) rfl (some 96) (by kernel_rfl) (by kernel_rfl)) ?_
  refine o_run 2 ⟨[E1, (6, .one .top (.bool (eq_api_Event x39 (T_api_Event.mk 1 p0)))), E7, E8, E36, E58, E59, E60, E61, E62, E63, E64, E65, E67, E68, E69, E70, E71, E72, E73, E74, E75, E76, E77, E79, E80, E81, E82, E83, E84, E85, E86, E87, E88, (97, .one .top (.bool (eq_api_Event x39 (T_api_Event.mk 1 p0))))], [B37], H26⟩ (by kernel_rfl) (by kernel_rfl) ?_
  cases hB42
  exact o_end (by kernel_rfl) (by kernel_rfl)
  refine o_eq (congrArg (fun q => (⟨[E1, E7, E8, E36, E58, E59, E60, E61, E62, E63, E64, E65, E67, E68, E69, E70, E71, E72, E73, E74, E75, E76, E77, (87, .one .top (.bool q)), (88, .one .top (.bool q)), (89, .one .top (.bool q))], [B37], H26⟩ : St)) h38) ?_
  refine o_run 9 ⟨[E1, E6, E7, E8, E36, E58, E59, E60, E61, E62, E63, E64, E65, E67, E68, E69, E70, E71, E72, E73, E74, E75, E76, E77, (87, .one .top (.bool false)), E89, E90, (90, .tup []), (91, .tup []), (92, .tup []), (93, .tup []), (94, .tup []), (95, .tup []), (96, .tup []), E91], [B37], H26⟩ (by kernel_rfl) (by kernel_rfl) ?_
  cases hB42
  exact o_end (by kernel_rfl) (by kernel_rfl)
  refine o_eq (congrArg (fun q => (⟨[E1, E7, E8, E36, E58, E59, E60, E61, E62, E63, E64, E65, (76, .one .top (.bool q)), (77, .one .top (.bool q))], [B37], H26⟩ : St)) h35) ?_
  refine o_run 21 ⟨[E1, E6, E7, E8, E36, E58, E59, E60, E61, E62, E63, E64, E65, (76, .one .top (.bool false)), (77, .one .top (.bool false)), (78, .tup []), (79, .tup []), (80, .tup []), (81, .tup []), (82, .tup []), (83, .tup []), (84, .tup []), (85, .tup []), (86, .tup []), (87, .tup []), E89, E90, (90, .tup []), (91, .tup []), (92, .tup []), (93, .tup []), (94, .tup []), (95, .tup []), (96, .tup []), E91], [B37], H26⟩ (by kernel_rfl) (by kernel_rfl) ?_
  cases hB42
  exact o_end (by kernel_rfl) (by kernel_rfl)
  refine w_ret ?_
  obtain ⟨e0, e1⟩ := some2_inv hF
  subst e0
  subst e1
  exact fin_imp (v := .one .top (.bool w41)) (by kernel_rfl) (by kernel_rfl) (by kernel_rfl)
end Go.Proofs.Abs
