/- The law ItemCalls: whatever the input, it answers true. No conditions. (Part ItemCallsF2 of its proof.) -/
import Derived.Test.YtjheniapmdcelaaItemCallsF1
set_option linter.unusedVariables false
set_option linter.unusedSimpArgs false
set_option linter.unusedSectionVars false
/- Printed by gen (walk.py). -/
namespace Go.Proofs.Abs
open Go Go.Proofs
set_option linter.unusedVariables false
set_option maxRecDepth 100000
set_option maxHeartbeats 0
noncomputable def ref04_others_j1 (j1 : Int) (j2 : T_ref04_Cpu) : Option (T_ref04_Cpu) :=
  some (T_ref04_Cpu.mk j2.R_ j1 j2.EPC_ j2.Cause_ j2.State_ j2.Why_ j2.Steps_ j2.Taken_ j2.Out_ j2.Entry_ j2.Vector_ j2.Guard_ j2.Limit_ j2.Input_)
noncomputable def ref04_others_j2 (j4 : Int) (j5 : T_ref04_Cpu) : Option (T_ref04_Cpu) :=
  ref04_others_j1 j4 j5
noncomputable def ref04_others_j3 (p0 : T_ref04_Cpu) (j7 : T_ref04_Cpu) : Option (T_ref04_Cpu) :=
  ref04_others_j2 (IntKind.wrap .u32 (p0.PC_ + 4)) j7
noncomputable def ref04_others_j4 (p0 : T_ref04_Cpu) (j12 : T_ref04_Cpu) : Option (T_ref04_Cpu) :=
  ref04_others_j3 p0 j12
noncomputable def ref04_others_j5 (p0 : T_ref04_Cpu) (j23 : T_ref04_Cpu) : Option (T_ref04_Cpu) :=
  ref04_others_j4 p0 j23
noncomputable def ref04_others_j6 (p0 : T_ref04_Cpu) (j29 : T_ref04_Cpu) : Option (T_ref04_Cpu) :=
  ref04_others_j5 p0 j29
noncomputable def ref04_others_j7 (p0 : T_ref04_Cpu) (j40 : T_ref04_Cpu) : Option (T_ref04_Cpu) :=
  ref04_others_j6 p0 j40
noncomputable def ref04_others_j8 (p0 : T_ref04_Cpu) (j45 : T_ref04_Cpu) : Option (T_ref04_Cpu) :=
  ref04_others_j7 p0 j45
noncomputable def ref04_others_j9 (p0 : T_ref04_Cpu) (j54 : T_ref04_Cpu) : Option (T_ref04_Cpu) :=
  ref04_others_j8 p0 j54
noncomputable def ref04_others  (p0 : T_ref04_Cpu) (p1 : T_ref02_Instr) (p2 : Int) : Option (T_ref04_Cpu) :=
  if (p1.Op_ == 24) = true then (ref04_others_j1 p2 p0)
  else (if (p1.Op_ == 25) = true then (ref04_others_j2 p2 (T_ref04_Cpu.mk (arrL [(p0.R_.g 0), (p0.R_.g 1), (p0.R_.g 2), (p0.R_.g 3), (p0.R_.g 4), (p0.R_.g 5), (p0.R_.g 6), (p0.R_.g 7), (p0.R_.g 8), (p0.R_.g 9), (p0.R_.g 10), (p0.R_.g 11), (p0.R_.g 12), (p0.R_.g 13), (IntKind.wrap .u32 (p0.PC_ + 4)), (p0.R_.g 15)] : Arr 16 Int) p0.PC_ p0.EPC_ p0.Cause_ p0.State_ p0.Why_ p0.Steps_ p0.Taken_ p0.Out_ p0.Entry_ p0.Vector_ p0.Guard_ p0.Limit_ p0.Input_))
  else (if (p1.Op_ == 26) = true then (if (decide (p2 ≥ (IntKind.wrap .u32 p1.Imm_))) = true then (bind1 (ref04_trap p0 (IntKind.wrap .u32 p1.B_)) fun r10 =>
  some r10)
  else (ref04_others_j3 p0 p0))
  else (if (p1.Op_ == 27) = true then (if (p2 == 0) = true then (bind1 (ref04_trap p0 2) fun r15 =>
  some r15)
  else (ref04_others_j4 p0 p0))
  else (if (p1.Op_ == 28) = true then (bind1 (ref04_trap p0 (IntKind.wrap .u32 p1.Imm_)) fun r18 =>
  some r18)
  else (if (p1.Op_ == 29) = true then (bind1 (ref04_trap p0 p2) fun r21 =>
  some r21)
  else (if (p1.Op_ == 30) = true then (bind1 (app 16 ([] : List T_api_Event) p0.Out_) fun v25 =>
  bind1 (app 16 v25 ([(T_api_Event.mk p1.Imm_ (IntKind.wrap .i32 p2))] : List T_api_Event)) fun v27 =>
  ref04_others_j5 p0 (T_ref04_Cpu.mk p0.R_ p0.PC_ p0.EPC_ p0.Cause_ p0.State_ p0.Why_ p0.Steps_ p0.Taken_ v27 p0.Entry_ p0.Vector_ p0.Guard_ p0.Limit_ p0.Input_))
  else (if (p1.Op_ == 31) = true then (if (decide (p0.Taken_ ≥ (p0.Input_.length : Int))) = true then (bind1 (ref04_trap p0 7) fun r32 =>
  some r32)
  else (bind1 (gi p0.Input_ p0.Taken_) fun x34 =>
  bind1 (ga p0.R_ p1.A_) fun v36 =>
  bind1 (sa p0.R_ p1.A_ (IntKind.wrap .u32 x34)) fun v38 =>
  ref04_others_j6 p0 (T_ref04_Cpu.mk v38 p0.PC_ p0.EPC_ p0.Cause_ p0.State_ p0.Why_ p0.Steps_ (IntKind.wrap .i64 (p0.Taken_ + 1)) p0.Out_ p0.Entry_ p0.Vector_ p0.Guard_ p0.Limit_ p0.Input_)))
  else (if (p1.Op_ == 32) = true then (if (decide ((IntKind.wrap .i32 p2) < (IntKind.wrap .i32 p0.Limit_))) = true then (bind1 (ref04_trap p0 5) fun r43 =>
  some r43)
  else (ref04_others_j7 p0 p0))
  else (if (p1.Op_ == 33) = true then (if (decide (p1.Imm_ > 1)) = true then (bind1 (ref04_fault p0 20) fun r48 =>
  some r48)
  else (bind1 (ga p0.R_ p1.A_) fun v50 =>
  bind1 (sa p0.R_ p1.A_ p0.EPC_) fun v52 =>
  if (p1.Imm_ == 1) = true then (bind1 (ga v52 p1.A_) fun v56 =>
  bind1 (sa v52 p1.A_ p0.Cause_) fun v58 =>
  ref04_others_j9 p0 (T_ref04_Cpu.mk v58 p0.PC_ p0.EPC_ p0.Cause_ p0.State_ p0.Why_ p0.Steps_ p0.Taken_ p0.Out_ p0.Entry_ p0.Vector_ p0.Guard_ p0.Limit_ p0.Input_))
  else (ref04_others_j9 p0 (T_ref04_Cpu.mk v52 p0.PC_ p0.EPC_ p0.Cause_ p0.State_ p0.Why_ p0.Steps_ p0.Taken_ p0.Out_ p0.Entry_ p0.Vector_ p0.Guard_ p0.Limit_ p0.Input_))))
  else (ref04_others_j8 p0 p0))))))))))
theorem ok_ref04_others (H : Heap) {p0 : T_ref04_Cpu} {p1 : T_ref02_Instr} {p2 : Int} {ra : T_ref04_Cpu} (hF : ref04_others p0 p1 p2 = some ra) : evS X 119 [.agg (m1_ref04_Cpu p0), .agg (m0_ref02_Instr p1), .one .top (.int .u32 p2)] H = some (.agg (m1_ref04_Cpu ra), H) := by
 let E1 : EN := (2, vu p2)
 let E2 : EN := (3, vl 3 0)
 let E3 : EN := (4, vl 4 0)
 let E4 : EN := (6, vl 6 0)
 let B5 : EB := (3, (m1_ref04_Cpu p0))
 let B6 : EB := (4, (m0_ref02_Instr p1))
 let B7 : EB := (6, (List.replicate 19 (.top, .int .u32 0) ++ List.replicate 4 (.top, .int .i64 0) ++ [((.own 1), .sl 2 (List.map e_api_Event ([] : List T_api_Event)))] ++ List.replicate 4 (.top, .int .u32 0) ++ [((.own 1), .sl 1 (List.map (eI .i32) ([] : List Int)))]))
 let E8 : EN := (7, vu (IntKind.wrap .u32 (p0.PC_ + 4)))
 let E9 : EN := (12, vi p1.Op_)
 let B10 : EB := (3, (arM .u32 14 p0.R_ ++ [(.top, .int .u32 (IntKind.wrap .u32 (p0.PC_ + 4))), (.top, .int .u32 (p0.R_.g 15)), (.top, .int .u32 p0.PC_), (.top, .int .u32 p0.EPC_), (.top, .int .u32 p0.Cause_), (.top, .int .i64 p0.State_), (.top, .int .i64 p0.Why_), (.top, .int .i64 p0.Steps_), (.top, .int .i64 p0.Taken_), ((.own 0), .sl 2 (List.map e_api_Event p0.Out_)), (.top, .int .u32 p0.Entry_), (.top, .int .u32 p0.Vector_), (.top, .int .u32 p0.Guard_), (.top, .int .u32 p0.Limit_), ((.own 0), .sl 1 (List.map (eI .i32) p0.Input_))]))
 let E11 : EN := (29, .agg (m1_ref04_Cpu p0))
 let E12 : EN := (30, vl 4 2)
 let E13 : EN := (31, vi p1.B_)
 let E14 : EN := (32, vu (IntKind.wrap .u32 p1.B_))
 let E16 : EN := (38, .agg (m1_ref04_Cpu p0))
 let E18 : EN := (42, .agg (m1_ref04_Cpu p0))
 let E19 : EN := (43, vl 4 4)
 let E20 : EN := (44, vi p1.Imm_)
 let E21 : EN := (45, vu (IntKind.wrap .u32 p1.Imm_))
 let E23 : EN := (49, .agg (m1_ref04_Cpu p0))
 let E24 : EN := (50, vu p2)
 let E27 : EN := (55, vl 3 23)
 let E28 : EN := (58, vl 4 4)
 let E29 : EN := (59, vi p1.Imm_)
 let E30 : EN := (60, vu p2)
 let E31 : EN := (61, .one .top (.int .i32 (IntKind.wrap .i32 p2)))
 let E32 : EN := (62, .agg [(.top, .int .i64 p1.Imm_), (.top, .int .i32 (IntKind.wrap .i32 p2))])
 let E33 : EN := (54, .one .top .junk)
 let E34 : EN := (56, .one (.own 0) (.sl 2 (List.map e_api_Event p0.Out_)))
 let E35 : EN := (57, .one .top .junk)
 let E36 : EN := (63, .one .top .junk)
 let E38 : EN := (65, vl 3 23)
 let E39 : EN := (54, .one (.own 1) (.sl 2 (List.map e_api_Event ([] : List T_api_Event))))
 let E41 : EN := (63, .one (.own 1) (.sl 2 (List.map e_api_Event ([(T_api_Event.mk p1.Imm_ (IntKind.wrap .i32 p2))] : List T_api_Event))))
 let E42 : EN := (73, vb (decide (p0.Taken_ ≥ (p0.Input_.length : Int))))
 let E43 : EN := (68, vl 3 22)
 let E44 : EN := (69, vi p0.Taken_)
 let E45 : EN := (70, vl 3 28)
 let E46 : EN := (71, .one (.own 0) (.sl 1 (List.map (eI .i32) p0.Input_)))
 let E47 : EN := (72, vi (p0.Input_.length : Int))
 let E48 : EN := (74, .agg (m1_ref04_Cpu p0))
 let E51 : EN := (76, vl 4 1)
 let E52 : EN := (77, vi p1.A_)
 let E53 : EN := (78, vl 3 28)
 let E54 : EN := (80, vl 3 22)
 let E55 : EN := (85, vl 3 0)
 let E56 : EN := (79, .one (.own 0) (.sl 1 (List.map (eI .i32) p0.Input_)))
 let E57 : EN := (81, vi p0.Taken_)
 let E61 : EN := (86, vl 3 (0 + Int.toNat p1.A_))
 let E62 : EN := (99, .agg (m1_ref04_Cpu p0))
 let E64 : EN := (106, .agg (m1_ref04_Cpu p0))
 let E67 : EN := (108, vl 4 1)
 let E68 : EN := (109, vi p1.A_)
 let E69 : EN := (110, vl 3 17)
 let E70 : EN := (111, vu p0.EPC_)
 let E71 : EN := (112, vl 3 0)
 let E72 : EN := (113, vl 3 (0 + Int.toNat p1.A_))
 let E74 : EN := (117, vl 4 1)
 let E75 : EN := (118, vi p1.A_)
 let E76 : EN := (119, vl 3 18)
 let E77 : EN := (120, vu p0.Cause_)
 let E78 : EN := (121, vl 3 0)
 let E79 : EN := (122, vl 3 (0 + Int.toNat p1.A_))
 let S80 : St := ⟨[E1, E2, E3, E4, E8], [B5, B6, B7], H⟩
 let S81 : St := ⟨[E1, E2, E3, E4, E8, E9], [B5, B6, B7], H⟩
 let S82 : St := ⟨[E1, E2, E4], [B5, B7], H⟩
 let S83 : St := ⟨[E1, E2, E4, E8], [B5, B7], H⟩
 let S84 : St := ⟨[E2, E3, E4], [B5, B6, B7], H⟩
 let S85 : St := ⟨[E2, E3, E4, E11, E12, E13, E14], [B5, B6, B7], H⟩
 let S86 : St := ⟨[E2, E4, E8], [B5, B7], H⟩
 let S87 : St := ⟨[E2, E4], [B5, B7], H⟩
 let S88 : St := ⟨[E2, E4, E16], [B5, B7], H⟩
 let S89 : St := ⟨[E2, E3, E4, E18, E19, E20, E21], [B5, B6, B7], H⟩
 let S90 : St := ⟨[E1, E2, E4, E23, E24], [B5, B7], H⟩
 let S92 : St := ⟨[E1, E2, E3, E4, E8, E39, E27, E34, E28, E29, E30, E31, E32], [B5, B6, B7], H⟩
 let S94 : St := ⟨[E1, E2, E3, E4, E8, E33, E27, E34, E28, E29, E30, E31, E32], [B5, B6, B7], H⟩
 let S97 : St := ⟨[E1, E2, E3, E4, E8, E33, E27, E34, E35, E28, E29, E30, E31, E32, E36], [B5, B6, B7], H⟩
 let S99 : St := ⟨[E1, E2, E3, E4, E8, E39, E27, E34, E28, E29, E30, E31, E32, E41], [B5, B6, B7], H⟩
 let S100 : St := ⟨[E1, E2, E3, E4, E8, E33, E27, E34, E28, E29, E30, E31, E32, E41], [B5, B6, B7], H⟩
 let S101 : St := ⟨[E1, E2, E3, E4, E8, E39, E27, E28, E29, E30, E31, E32, E41], [B5, B6, B7], H⟩
 let S102 : St := ⟨[E1, E2, E3, E4, E8, E27, E34, E28, E29, E30, E31, E32, E41], [B5, B6, B7], H⟩
 let S103 : St := ⟨[E2, E3, E4, E8], [B5, B6, B7], H⟩
 let S104 : St := ⟨[E2, E3, E4, E8, E43, E44, E45, E46], [B5, B6, B7], H⟩
 let S105 : St := ⟨[E2, E4, E48], [B5, B7], H⟩
 let S107 : St := ⟨[E2, E3, E4, E8, E51, E52, E53, E56, E54, E57, E55], [B5, B6, B7], H⟩
 let S112 : St := ⟨[E2, E4, E62], [B5, B7], H⟩
 let S113 : St := ⟨[E2, E4, E64], [B5, B7], H⟩
 let S115 : St := ⟨[E2, E3, E4, E8, E67, E68, E69, E70, E71], [B5, B6, B7], H⟩
 let S116 : St := ⟨[E2, E3, E4, E8, E67, E68, E69, E70, E71, E72], [B5, B6, B7], H⟩
 refine yf Try.func119 true ⟨[(0, .agg (m1_ref04_Cpu p0)), (1, .agg (m0_ref02_Instr p1)), E1], [], H⟩ ?_
 unfold ref04_others at hF
 refine ysg ⟨[E1, E2, E3, E4], [B5, B6, B7], H⟩ ?_
 refine ysg S80 ?_
 refine w_seq ?_
 refine ysg S81 ?_
 refine w_block ?_
 refine ysg ⟨[E1, E2, E3, E4, E8, E9, (13, vb (p1.Op_ == 24))], [B5, B6, B7], H⟩ ?_
 refine w_join (α := (Int × T_ref04_Cpu)) (fun x => (⟨[E2, E4, (7, vu x.1)], [(3, (m1_ref04_Cpu x.2)), B7], H⟩ : St)) (fun x => ref04_others_j1 x.1 x.2 = some ra) ?_ ?_
 rintro ⟨j1, j2⟩ hF
 replace hF : ref04_others_j1 j1 j2 = some ra := hF
 unfold ref04_others_j1 at hF
 refine ysg ⟨[E2, E4], [(3, (arM .u32 16 j2.R_ ++ [(.top, .int .u32 j1), (.top, .int .u32 j2.EPC_), (.top, .int .u32 j2.Cause_), (.top, .int .i64 j2.State_), (.top, .int .i64 j2.Why_), (.top, .int .i64 j2.Steps_), (.top, .int .i64 j2.Taken_), ((.own 0), .sl 2 (List.map e_api_Event j2.Out_)), (.top, .int .u32 j2.Entry_), (.top, .int .u32 j2.Vector_), (.top, .int .u32 j2.Guard_), (.top, .int .u32 j2.Limit_), ((.own 0), .sl 1 (List.map (eI .i32) j2.Input_))])), B7], H⟩ ?_
 refine ysg ⟨[E4], [(6, (arM .u32 16 j2.R_ ++ [(.top, .int .u32 j1), (.top, .int .u32 j2.EPC_), (.top, .int .u32 j2.Cause_), (.top, .int .i64 j2.State_), (.top, .int .i64 j2.Why_), (.top, .int .i64 j2.Steps_), (.top, .int .i64 j2.Taken_), ((.own 0), .sl 2 (List.map e_api_Event j2.Out_)), (.top, .int .u32 j2.Entry_), (.top, .int .u32 j2.Vector_), (.top, .int .u32 j2.Guard_), (.top, .int .u32 j2.Limit_), ((.own 0), .sl 1 (List.map (eI .i32) j2.Input_))]))], H⟩ ?_
 refine w_ret ?_
 obtain e0 := some1_inv hF
 subst e0
 exact yp (.agg (arM .u32 16 j2.R_ ++ [(.top, .int .u32 j1), (.top, .int .u32 j2.EPC_), (.top, .int .u32 j2.Cause_), (.top, .int .i64 j2.State_), (.top, .int .i64 j2.Why_), (.top, .int .i64 j2.Steps_), (.top, .int .i64 j2.Taken_), ((.own 0), .sl 2 (List.map e_api_Event j2.Out_)), (.top, .int .u32 j2.Entry_), (.top, .int .u32 j2.Vector_), (.top, .int .u32 j2.Guard_), (.top, .int .u32 j2.Limit_), ((.own 0), .sl 1 (List.map (eI .i32) j2.Input_))]))
 rcases if_inv hF with ⟨h3, hF⟩ | ⟨h3, hF⟩
 refine yT h3 S82 ?_
 refine yg ⟨[E2, E4, (7, vu p2)], [B5, B7], H⟩ ?_
 exact ⟨(p2, p0), hF, (by kernel_rfl)⟩
 refine yF h3 S81 ?_
 refine ysg ⟨[E1, E2, E3, E4, E8, E9, (16, vb (p1.Op_ == 25))], [B5, B6, B7], H⟩ ?_
 refine w_join (α := (Int × T_ref04_Cpu)) (fun x => (⟨[E2, E4, (7, vu x.1)], [(3, (m1_ref04_Cpu x.2)), B7], H⟩ : St)) (fun x => ref04_others_j2 x.1 x.2 = some ra) ?_ ?_
 rintro ⟨j4, j5⟩ hF
 replace hF : ref04_others_j2 j4 j5 = some ra := hF
 unfold ref04_others_j2 at hF
 exact ⟨(j4, j5), hF, (by kernel_rfl)⟩
 rcases if_inv hF with ⟨h6, hF⟩ | ⟨h6, hF⟩
 refine yT h6 S83 ?_
 refine ysg ⟨[E1, E2, E4], [B10, B7], H⟩ ?_
 refine yg ⟨[E2, E4, (7, vu p2)], [B10, B7], H⟩ ?_
 exact ⟨(p2, (T_ref04_Cpu.mk (arrL [(p0.R_.g 0), (p0.R_.g 1), (p0.R_.g 2), (p0.R_.g 3), (p0.R_.g 4), (p0.R_.g 5), (p0.R_.g 6), (p0.R_.g 7), (p0.R_.g 8), (p0.R_.g 9), (p0.R_.g 10), (p0.R_.g 11), (p0.R_.g 12), (p0.R_.g 13), (IntKind.wrap .u32 (p0.PC_ + 4)), (p0.R_.g 15)] : Arr 16 Int) p0.PC_ p0.EPC_ p0.Cause_ p0.State_ p0.Why_ p0.Steps_ p0.Taken_ p0.Out_ p0.Entry_ p0.Vector_ p0.Guard_ p0.Limit_ p0.Input_)), hF, (by kernel_rfl)⟩
 refine yF h6 S81 ?_
 refine ysg ⟨[E1, E2, E3, E4, E8, E9, (22, vb (p1.Op_ == 26))], [B5, B6, B7], H⟩ ?_
 refine w_join (α := (T_ref04_Cpu)) (fun x => (⟨[E2, E4, E8], [(3, (m1_ref04_Cpu x)), B7], H⟩ : St)) (fun x => ref04_others_j3 p0 x = some ra) ?_ ?_
 rintro j7 hF
 replace hF : ref04_others_j3 p0 j7 = some ra := hF
 unfold ref04_others_j3 at hF
 exact ⟨((IntKind.wrap .u32 (p0.PC_ + 4)), j7), hF, (by kernel_rfl)⟩
 rcases if_inv hF with ⟨h8, hF⟩ | ⟨h8, hF⟩
 refine yT h8 S80 ?_
 refine ysg ⟨[E2, E3, E4, E8, (28, vb (decide (p2 ≥ (IntKind.wrap .u32 p1.Imm_))))], [B5, B6, B7], H⟩ ?_
 rcases if_inv hF with ⟨h9, hF⟩ | ⟨h9, hF⟩
 refine yT h9 S84 ?_
 refine w_seq ?_
 obtain ⟨r10, c11, hF⟩ := bind1_inv hF
 let E15 : EN := (33, .agg (m1_ref04_Cpu r10))
 refine w_regO ⟨[E4], [(6, (m1_ref04_Cpu r10))], H⟩ ?_ ?_
 refine yr 4 S85 ?_
 refine o_one ⟨[E2, E3, E4, E11, E12, E13, E14, E15], [B5, B6, B7], H⟩ (yc (some 33) true false S85 (ok_ref04_trap H c11)) ?_
 refine yr 1 ⟨[E2, E3, E4, E11, E12, E13, E14, E15], [B5, B6, (6, (m1_ref04_Cpu r10))], H⟩ ?_
 exact ye
 refine w_ret ?_
 obtain e0 := some1_inv hF
 subst e0
 exact yp (.agg (m1_ref04_Cpu r10))
 refine yF h9 S86 ?_
 refine w_skip ?_
 exact ⟨p0, hF, (by kernel_rfl)⟩
 refine yF h8 S81 ?_
 refine ysg ⟨[E1, E2, E3, E4, E8, E9, (34, vb (p1.Op_ == 27))], [B5, B6, B7], H⟩ ?_
 refine w_join (α := (T_ref04_Cpu)) (fun x => (⟨[E2, E4, E8], [(3, (m1_ref04_Cpu x)), B7], H⟩ : St)) (fun x => ref04_others_j4 p0 x = some ra) ?_ ?_
 rintro j12 hF
 replace hF : ref04_others_j4 p0 j12 = some ra := hF
 unfold ref04_others_j4 at hF
 exact ⟨j12, hF, (by kernel_rfl)⟩
 rcases if_inv hF with ⟨h13, hF⟩ | ⟨h13, hF⟩
 refine yT h13 S83 ?_
 refine ysg ⟨[E2, E4, E8, (37, vb (p2 == 0))], [B5, B7], H⟩ ?_
 rcases if_inv hF with ⟨h14, hF⟩ | ⟨h14, hF⟩
 refine yT h14 S87 ?_
 refine w_seq ?_
 obtain ⟨r15, c16, hF⟩ := bind1_inv hF
 let E17 : EN := (39, .agg (m1_ref04_Cpu r15))
 refine w_regO ⟨[E4], [(6, (m1_ref04_Cpu r15))], H⟩ ?_ ?_
 refine yr 1 S88 ?_
 refine o_one ⟨[E2, E4, E16, E17], [B5, B7], H⟩ (yc (some 39) true false S88 (ok_ref04_trap H c16)) ?_
 refine yr 1 ⟨[E2, E4, E16, E17], [B5, (6, (m1_ref04_Cpu r15))], H⟩ ?_
 exact ye
 refine w_ret ?_
 obtain e0 := some1_inv hF
 subst e0
 exact yp (.agg (m1_ref04_Cpu r15))
 refine yF h14 S86 ?_
 refine w_skip ?_
 exact ⟨p0, hF, (by kernel_rfl)⟩
 refine yF h13 S81 ?_
 refine ysg ⟨[E1, E2, E3, E4, E8, E9, (40, vb (p1.Op_ == 28))], [B5, B6, B7], H⟩ ?_
 rcases if_inv hF with ⟨h17, hF⟩ | ⟨h17, hF⟩
 refine yT h17 S84 ?_
 refine w_seq ?_
 obtain ⟨r18, c19, hF⟩ := bind1_inv hF
 let E22 : EN := (46, .agg (m1_ref04_Cpu r18))
 refine w_regO ⟨[E4], [(6, (m1_ref04_Cpu r18))], H⟩ ?_ ?_
 refine yr 4 S89 ?_
 refine o_one ⟨[E2, E3, E4, E18, E19, E20, E21, E22], [B5, B6, B7], H⟩ (yc (some 46) true false S89 (ok_ref04_trap H c19)) ?_
 refine yr 1 ⟨[E2, E3, E4, E18, E19, E20, E21, E22], [B5, B6, (6, (m1_ref04_Cpu r18))], H⟩ ?_
 exact ye
 refine w_ret ?_
 obtain e0 := some1_inv hF
 subst e0
 exact yp (.agg (m1_ref04_Cpu r18))
 refine yF h17 S81 ?_
 refine ysg ⟨[E1, E2, E3, E4, E8, E9, (47, vb (p1.Op_ == 29))], [B5, B6, B7], H⟩ ?_
 rcases if_inv hF with ⟨h20, hF⟩ | ⟨h20, hF⟩
 refine yT h20 S82 ?_
 refine w_seq ?_
 obtain ⟨r21, c22, hF⟩ := bind1_inv hF
 let E25 : EN := (51, .agg (m1_ref04_Cpu r21))
 refine w_regO ⟨[E4], [(6, (m1_ref04_Cpu r21))], H⟩ ?_ ?_
 refine yr 2 S90 ?_
 refine o_one ⟨[E1, E2, E4, E23, E24, E25], [B5, B7], H⟩ (yc (some 51) true false S90 (ok_ref04_trap H c22)) ?_
 refine yr 1 ⟨[E1, E2, E4, E23, E24, E25], [B5, (6, (m1_ref04_Cpu r21))], H⟩ ?_
 exact ye
 refine w_ret ?_
 obtain e0 := some1_inv hF
 subst e0
 exact yp (.agg (m1_ref04_Cpu r21))
 refine yF h20 S81 ?_
 refine ysg ⟨[E1, E2, E3, E4, E8, E9, (52, vb (p1.Op_ == 30))], [B5, B6, B7], H⟩ ?_
 refine w_join (α := (T_ref04_Cpu)) (fun x => (⟨[E2, E4, E8], [(3, (m1_ref04_Cpu x)), B7], H⟩ : St)) (fun x => ref04_others_j5 p0 x = some ra) ?_ ?_
 rintro j23 hF
 replace hF : ref04_others_j5 p0 j23 = some ra := hF
 unfold ref04_others_j5 at hF
 exact ⟨j23, hF, (by kernel_rfl)⟩
 rcases if_inv hF with ⟨h24, hF⟩ | ⟨h24, hF⟩
 refine yT h24 S80 ?_
 obtain ⟨v25, h26, hF⟩ := bind1_inv hF
 let E40 : EN := (57, .one (.own 1) (.sl 2 (List.map e_api_Event v25)))
 let S93 : St := ⟨[E1, E2, E3, E4, E8, E33, E27, E34, E40, E28, E29, E30, E31, E32], [B5, B6, B7], H⟩
 let S95 : St := ⟨[E1, E2, E3, E4, E8, E33, E27, E34, E40, E28, E29, E30, E31, E32, E41], [B5, B6, B7], H⟩
 obtain ⟨v27, h28, hF⟩ := bind1_inv hF
 let B26 : EB := (3, (arM .u32 16 p0.R_ ++ [(.top, .int .u32 p0.PC_), (.top, .int .u32 p0.EPC_), (.top, .int .u32 p0.Cause_), (.top, .int .i64 p0.State_), (.top, .int .i64 p0.Why_), (.top, .int .i64 p0.Steps_), (.top, .int .i64 p0.Taken_), ((.own 0), .sl 2 (List.map e_api_Event v27)), (.top, .int .u32 p0.Entry_), (.top, .int .u32 p0.Vector_), (.top, .int .u32 p0.Guard_), (.top, .int .u32 p0.Limit_), ((.own 0), .sl 1 (List.map (eI .i32) p0.Input_))]))
 let E37 : EN := (64, .one (.own 0) (.sl 2 (List.map e_api_Event v27)))
 let S91 : St := ⟨[E1, E2, E3, E4, E8, E33, E27, E34, E35, E28, E29, E30, E31, E32, E36, E37, E38], [B26, B6, B7], H⟩
 let S96 : St := ⟨[E1, E2, E3, E4, E8, E33, E27, E34, E35, E28, E29, E30, E31, E32, E36, E37], [B5, B6, B7], H⟩
 let S98 : St := ⟨[E1, E2, E3, E4, E8, E33, E27, E34, E35, E28, E29, E30, E31, E32, E36, E37, E38], [B5, B6, B7], H⟩
 let K120 : Sch := .last 2 (.last 3 (.last 10 (.take 11 (.last 12 .done))))
 let K121 : Sch := .last 0 (.last 3 (.last 10 (.take 11 (.last 12 .done))))
 let K119 : Sch := .alt 3 (.last 9 (.last 10 (.take 11 (.last 12 .done)))) (.last 9 (.last 3 (.last 10 (.take 11 (.last 12 .done)))))
 refine w_regD (.take 1 (.take 4 (.take 5 (.take 6 (.take 7 (.take 8 (.alt 0 (.alt 2 K119 (.last 9 K120)) (.alt 2 (.alt 0 K119 (.last 9 K121)) (.last 9 (.alt 0 K120 (.last 2 K121))))))))))) (by kernel_rfl) (⟨[E2, E4, E8], [B26, B7], H⟩ : St) ?_ ?_
 refine ydk 6 ⟨[E1, E2, E3, E4, E8, E27, E28, E29, E30, E31, E32], [B5, B6, B7], H⟩ ?_
 refine q_in S91 ?_ ?_
 refine q_alt ⟨[E1, E2, E3, E4, E8, E39, E27, E28, E29, E30, E31, E32], [B5, B6, B7], H⟩ (by kernel_rfl) ?_ ?_
 refine q_alt S92 (by kernel_rfl) ?_ ?_
 refine q_alt S93 (st_app (X := X) S94 16 h26 47 47 67 2 0 [(.top, .int .i64 0), (.top, .int .i32 0)] (.own 0) e_api_Event 0 (some 57) (by kernel_rfl) (by kernel_rfl) (by kernel_rfl) (by kernel_rfl) (by kernel_rfl) (by kernel_rfl) (by kernel_rfl) (by kernel_rfl) (by kernel_rfl) (fun _ => rfl) (by kernel_rfl)) ?_ ?_
 refine yql S95 ?_
 refine q_last S96 (st_appZ (X := X) S97 16 h28 47 47 67 2 0 [(.top, .int .i64 0), (.top, .int .i32 0)] (.own 1) e_api_Event 0 (some 64) (by kernel_rfl) (by kernel_rfl) (by kernel_rfl) (by kernel_rfl) (by kernel_rfl) (by kernel_rfl) (by kernel_rfl) (by kernel_rfl) (by kernel_rfl) (fun _ => rfl) (by kernel_rfl)) ?_
 refine yqt S98 ?_
 refine yql S91 ?_
 exact yqe
 refine yql S99 ?_
 refine q_last S95 (st_app (X := X) S100 16 h26 47 47 67 2 0 [(.top, .int .i64 0), (.top, .int .i32 0)] (.own 0) e_api_Event 0 (some 57) (by kernel_rfl) (by kernel_rfl) (by kernel_rfl) (by kernel_rfl) (by kernel_rfl) (by kernel_rfl) (by kernel_rfl) (by kernel_rfl) (by kernel_rfl) (fun _ => rfl) (by kernel_rfl)) ?_
 refine q_last S96 (st_appZ (X := X) S97 16 h28 47 47 67 2 0 [(.top, .int .i64 0), (.top, .int .i32 0)] (.own 1) e_api_Event 0 (some 64) (by kernel_rfl) (by kernel_rfl) (by kernel_rfl) (by kernel_rfl) (by kernel_rfl) (by kernel_rfl) (by kernel_rfl) (by kernel_rfl) (by kernel_rfl) (fun _ => rfl) (by kernel_rfl)) ?_
 refine yqt S98 ?_
 refine yql S91 ?_
 exact yqe
 refine yql S101 ?_
 refine yql S99 ?_
 refine q_last S95 (st_app (X := X) S100 16 h26 47 47 67 2 0 [(.top, .int .i64 0), (.top, .int .i32 0)] (.own 0) e_api_Event 0 (some 57) (by kernel_rfl) (by kernel_rfl) (by kernel_rfl) (by kernel_rfl) (by kernel_rfl) (by kernel_rfl) (by kernel_rfl) (by kernel_rfl) (by kernel_rfl) (fun _ => rfl) (by kernel_rfl)) ?_
 refine q_last S96 (st_appZ (X := X) S97 16 h28 47 47 67 2 0 [(.top, .int .i64 0), (.top, .int .i32 0)] (.own 1) e_api_Event 0 (some 64) (by kernel_rfl) (by kernel_rfl) (by kernel_rfl) (by kernel_rfl) (by kernel_rfl) (by kernel_rfl) (by kernel_rfl) (by kernel_rfl) (by kernel_rfl) (fun _ => rfl) (by kernel_rfl)) ?_
 refine yqt S98 ?_
 refine yql S91 ?_
 exact yqe
 refine q_alt ⟨[E1, E2, E3, E4, E8, E27, E34, E28, E29, E30, E31, E32], [B5, B6, B7], H⟩ (by kernel_rfl) ?_ ?_
 refine q_alt S92 (by kernel_rfl) ?_ ?_
 refine q_alt S93 (st_app (X := X) S94 16 h26 47 47 67 2 0 [(.top, .int .i64 0), (.top, .int .i32 0)] (.own 0) e_api_Event 0 (some 57) (by kernel_rfl) (by kernel_rfl) (by kernel_rfl) (by kernel_rfl) (by kernel_rfl) (by kernel_rfl) (by kernel_rfl) (by kernel_rfl) (by kernel_rfl) (fun _ => rfl) (by kernel_rfl)) ?_ ?_
 refine yql S95 ?_
 refine q_last S96 (st_appZ (X := X) S97 16 h28 47 47 67 2 0 [(.top, .int .i64 0), (.top, .int .i32 0)] (.own 1) e_api_Event 0 (some 64) (by kernel_rfl) (by kernel_rfl) (by kernel_rfl) (by kernel_rfl) (by kernel_rfl) (by kernel_rfl) (by kernel_rfl) (by kernel_rfl) (by kernel_rfl) (fun _ => rfl) (by kernel_rfl)) ?_
 refine yqt S98 ?_
 refine yql S91 ?_
 exact yqe
 refine yql S99 ?_
 refine q_last S95 (st_app (X := X) S100 16 h26 47 47 67 2 0 [(.top, .int .i64 0), (.top, .int .i32 0)] (.own 0) e_api_Event 0 (some 57) (by kernel_rfl) (by kernel_rfl) (by kernel_rfl) (by kernel_rfl) (by kernel_rfl) (by kernel_rfl) (by kernel_rfl) (by kernel_rfl) (by kernel_rfl) (fun _ => rfl) (by kernel_rfl)) ?_
 refine q_last S96 (st_appZ (X := X) S97 16 h28 47 47 67 2 0 [(.top, .int .i64 0), (.top, .int .i32 0)] (.own 1) e_api_Event 0 (some 64) (by kernel_rfl) (by kernel_rfl) (by kernel_rfl) (by kernel_rfl) (by kernel_rfl) (by kernel_rfl) (by kernel_rfl) (by kernel_rfl) (by kernel_rfl) (fun _ => rfl) (by kernel_rfl)) ?_
 refine yqt S98 ?_
 refine yql S91 ?_
 exact yqe
 refine yql S102 ?_
 refine yql S99 ?_
 refine q_last S95 (st_app (X := X) S100 16 h26 47 47 67 2 0 [(.top, .int .i64 0), (.top, .int .i32 0)] (.own 0) e_api_Event 0 (some 57) (by kernel_rfl) (by kernel_rfl) (by kernel_rfl) (by kernel_rfl) (by kernel_rfl) (by kernel_rfl) (by kernel_rfl) (by kernel_rfl) (by kernel_rfl) (fun _ => rfl) (by kernel_rfl)) ?_
 refine q_last S96 (st_appZ (X := X) S97 16 h28 47 47 67 2 0 [(.top, .int .i64 0), (.top, .int .i32 0)] (.own 1) e_api_Event 0 (some 64) (by kernel_rfl) (by kernel_rfl) (by kernel_rfl) (by kernel_rfl) (by kernel_rfl) (by kernel_rfl) (by kernel_rfl) (by kernel_rfl) (by kernel_rfl) (fun _ => rfl) (by kernel_rfl)) ?_
 refine yqt S98 ?_
 refine yql S91 ?_
 exact yqe
 refine yql ⟨[E1, E2, E3, E4, E8, E27, E28, E29, E30, E31, E32, E41], [B5, B6, B7], H⟩ ?_
 refine q_alt S101 (by kernel_rfl) ?_ ?_
 refine yql S99 ?_
 refine q_last S95 (st_app (X := X) S100 16 h26 47 47 67 2 0 [(.top, .int .i64 0), (.top, .int .i32 0)] (.own 0) e_api_Event 0 (some 57) (by kernel_rfl) (by kernel_rfl) (by kernel_rfl) (by kernel_rfl) (by kernel_rfl) (by kernel_rfl) (by kernel_rfl) (by kernel_rfl) (by kernel_rfl) (fun _ => rfl) (by kernel_rfl)) ?_
 refine q_last S96 (st_appZ (X := X) S97 16 h28 47 47 67 2 0 [(.top, .int .i64 0), (.top, .int .i32 0)] (.own 1) e_api_Event 0 (some 64) (by kernel_rfl) (by kernel_rfl) (by kernel_rfl) (by kernel_rfl) (by kernel_rfl) (by kernel_rfl) (by kernel_rfl) (by kernel_rfl) (by kernel_rfl) (fun _ => rfl) (by kernel_rfl)) ?_
 refine yqt S98 ?_
 refine yql S91 ?_
 exact yqe
 refine yql S102 ?_
 refine yql S99 ?_
 refine q_last S95 (st_app (X := X) S100 16 h26 47 47 67 2 0 [(.top, .int .i64 0), (.top, .int .i32 0)] (.own 0) e_api_Event 0 (some 57) (by kernel_rfl) (by kernel_rfl) (by kernel_rfl) (by kernel_rfl) (by kernel_rfl) (by kernel_rfl) (by kernel_rfl) (by kernel_rfl) (by kernel_rfl) (fun _ => rfl) (by kernel_rfl)) ?_
 refine q_last S96 (st_appZ (X := X) S97 16 h28 47 47 67 2 0 [(.top, .int .i64 0), (.top, .int .i32 0)] (.own 1) e_api_Event 0 (some 64) (by kernel_rfl) (by kernel_rfl) (by kernel_rfl) (by kernel_rfl) (by kernel_rfl) (by kernel_rfl) (by kernel_rfl) (by kernel_rfl) (by kernel_rfl) (fun _ => rfl) (by kernel_rfl)) ?_
 refine yqt S98 ?_
 refine yql S91 ?_
 exact yqe
 kernel_rfl
 exact ⟨(T_ref04_Cpu.mk p0.R_ p0.PC_ p0.EPC_ p0.Cause_ p0.State_ p0.Why_ p0.Steps_ p0.Taken_ v27 p0.Entry_ p0.Vector_ p0.Guard_ p0.Limit_ p0.Input_), hF, (by kernel_rfl)⟩
 refine yF h24 S81 ?_
 refine ysg ⟨[E1, E2, E3, E4, E8, E9, (66, vb (p1.Op_ == 31))], [B5, B6, B7], H⟩ ?_
 refine w_join (α := (T_ref04_Cpu)) (fun x => (⟨[E2, E4, E8], [(3, (m1_ref04_Cpu x)), B7], H⟩ : St)) (fun x => ref04_others_j6 p0 x = some ra) ?_ ?_
 rintro j29 hF
 replace hF : ref04_others_j6 p0 j29 = some ra := hF
 unfold ref04_others_j6 at hF
 exact ⟨j29, hF, (by kernel_rfl)⟩
 rcases if_inv hF with ⟨h30, hF⟩ | ⟨h30, hF⟩
 refine yT h30 S103 ?_
 refine w_seq ?_
 refine yso ⟨[E2, E3, E4, E8, E42], [B5, B6, B7], H⟩ ?_ ?_
 refine yr 4 S104 ?_
 refine o_one ⟨[E2, E3, E4, E8, E43, E44, E45, E46, E47], [B5, B6, B7], H⟩ (yl S104 p0.Input_ (eI .i32) (some 72)) ?_
 refine yr 1 ⟨[E2, E3, E4, E8, E43, E44, E45, E46, E47, E42], [B5, B6, B7], H⟩ ?_
 exact ye
 rcases if_inv hF with ⟨h31, hF⟩ | ⟨h31, hF⟩
 refine yT h31 S87 ?_
 refine w_seq ?_
 obtain ⟨r32, c33, hF⟩ := bind1_inv hF
 let E49 : EN := (75, .agg (m1_ref04_Cpu r32))
 refine w_regO ⟨[E4], [(6, (m1_ref04_Cpu r32))], H⟩ ?_ ?_
 refine yr 1 S105 ?_
 refine o_one ⟨[E2, E4, E48, E49], [B5, B7], H⟩ (yc (some 75) true false S105 (ok_ref04_trap H c33)) ?_
 refine yr 1 ⟨[E2, E4, E48, E49], [B5, (6, (m1_ref04_Cpu r32))], H⟩ ?_
 exact ye
 refine w_ret ?_
 obtain e0 := some1_inv hF
 subst e0
 exact yp (.agg (m1_ref04_Cpu r32))
 refine yF h31 S103 ?_
 refine w_skip ?_
 refine w_seq ?_
 obtain ⟨x34, h35, hF⟩ := bind1_inv hF
 let E58 : EN := (82, .one .top (.rd (.own 0) (.own 0) [.int .i32 x34] 0))
 let E59 : EN := (83, .one .top (.int .i32 x34))
 let E60 : EN := (84, vu (IntKind.wrap .u32 x34))
 let S108 : St := ⟨[E2, E3, E4, E8, E51, E52, E53, E56, E54, E57, E58, E55], [B5, B6, B7], H⟩
 let S109 : St := ⟨[E2, E3, E4, E8, E51, E52, E53, E56, E54, E57, E58, E59, E55], [B5, B6, B7], H⟩
 let S110 : St := ⟨[E2, E3, E4, E8, E51, E52, E53, E56, E54, E57, E58, E59, E60, E55], [B5, B6, B7], H⟩
 let S111 : St := ⟨[E2, E3, E4, E8, E51, E52, E53, E56, E54, E57, E58, E59, E60, E55, E61], [B5, B6, B7], H⟩
 obtain ⟨v36, h37, hF⟩ := bind1_inv hF
 obtain ⟨v38, h39, hF⟩ := bind1_inv hF
 let B50 : EB := (3, (arM .u32 16 v38 ++ [(.top, .int .u32 p0.PC_), (.top, .int .u32 p0.EPC_), (.top, .int .u32 p0.Cause_), (.top, .int .i64 p0.State_), (.top, .int .i64 p0.Why_), (.top, .int .i64 p0.Steps_), (.top, .int .i64 p0.Taken_), ((.own 0), .sl 2 (List.map e_api_Event p0.Out_)), (.top, .int .u32 p0.Entry_), (.top, .int .u32 p0.Vector_), (.top, .int .u32 p0.Guard_), (.top, .int .u32 p0.Limit_), ((.own 0), .sl 1 (List.map (eI .i32) p0.Input_))]))
 let S106 : St := ⟨[E2, E3, E4, E8, E51, E52, E53, E56, E54, E57, E58, E59, E60, E55, E61], [B50, B6, B7], H⟩
 let K122 : Sch := .take 6 (.take 7 (.take 8 (.take 10 (.last 11 .done))))
 refine w_regD (.take 0 (.take 1 (.take 2 (.take 4 (.take 9 (.alt 3 (.last 5 K122) (.last 5 (.last 3 K122)))))))) (by kernel_rfl) (⟨[E2, E4, E8], [B50, B7], H⟩ : St) ?_ ?_
 refine ydk 5 ⟨[E2, E3, E4, E8, E51, E52, E53, E54, E55], [B5, B6, B7], H⟩ ?_
 refine q_in S106 ?_ ?_
 refine q_alt ⟨[E2, E3, E4, E8, E51, E52, E53, E56, E54, E55], [B5, B6, B7], H⟩ (by kernel_rfl) ?_ ?_
 refine yql S107 ?_
 refine q_take S108 (st_ix (X := X) S107 48 21 1 h35 (eI .i32) (.own 0) (some 82) (by kernel_rfl) (by kernel_rfl) (by kernel_rfl) (by kernel_rfl)) ?_
 refine yqt S109 ?_
 refine yqt S110 ?_
 refine q_take S111 (st_ixL (X := X) S110 46 35 16 h37 3 0 (some 86) (by kernel_rfl) (by kernel_rfl) (by kernel_rfl) (by kernel_rfl)) ?_
 refine q_last S106 (st_stL (X := X) S111 35 16 h39 3 0 (m1_ref04_Cpu p0) (fun q => .int .u32 q) ⟨true, [4, 6]⟩ (by kernel_rfl) (by kernel_rfl) (by kernel_rfl) (by kernel_rfl) (by kernel_rfl) (fun _ => rfl) (by kernel_rfl)) ?_
 exact yqe
 refine yql ⟨[E2, E3, E4, E8, E51, E52, E53, E54, E57, E55], [B5, B6, B7], H⟩ ?_
 refine yql S107 ?_
 refine q_take S108 (st_ix (X := X) S107 48 21 1 h35 (eI .i32) (.own 0) (some 82) (by kernel_rfl) (by kernel_rfl) (by kernel_rfl) (by kernel_rfl)) ?_
 refine yqt S109 ?_
 refine yqt S110 ?_
 refine q_take S111 (st_ixL (X := X) S110 46 35 16 h37 3 0 (some 86) (by kernel_rfl) (by kernel_rfl) (by kernel_rfl) (by kernel_rfl)) ?_
 refine q_last S106 (st_stL (X := X) S111 35 16 h39 3 0 (m1_ref04_Cpu p0) (fun q => .int .u32 q) ⟨true, [4, 6]⟩ (by kernel_rfl) (by kernel_rfl) (by kernel_rfl) (by kernel_rfl) (by kernel_rfl) (fun _ => rfl) (by kernel_rfl)) ?_
 exact yqe
 kernel_rfl
 refine yg ⟨[E2, E4, E8], [(3, (arM .u32 16 v38 ++ [(.top, .int .u32 p0.PC_), (.top, .int .u32 p0.EPC_), (.top, .int .u32 p0.Cause_), (.top, .int .i64 p0.State_), (.top, .int .i64 p0.Why_), (.top, .int .i64 p0.Steps_), (.top, .int .i64 (IntKind.wrap .i64 (p0.Taken_ + 1))), ((.own 0), .sl 2 (List.map e_api_Event p0.Out_)), (.top, .int .u32 p0.Entry_), (.top, .int .u32 p0.Vector_), (.top, .int .u32 p0.Guard_), (.top, .int .u32 p0.Limit_), ((.own 0), .sl 1 (List.map (eI .i32) p0.Input_))])), B7], H⟩ ?_
 exact ⟨(T_ref04_Cpu.mk v38 p0.PC_ p0.EPC_ p0.Cause_ p0.State_ p0.Why_ p0.Steps_ (IntKind.wrap .i64 (p0.Taken_ + 1)) p0.Out_ p0.Entry_ p0.Vector_ p0.Guard_ p0.Limit_ p0.Input_), hF, (by kernel_rfl)⟩
 refine yF h30 S81 ?_
 refine ysg ⟨[E1, E2, E3, E4, E8, E9, (91, vb (p1.Op_ == 32))], [B5, B6, B7], H⟩ ?_
 refine w_join (α := (T_ref04_Cpu)) (fun x => (⟨[E2, E4, E8], [(3, (m1_ref04_Cpu x)), B7], H⟩ : St)) (fun x => ref04_others_j7 p0 x = some ra) ?_ ?_
 rintro j40 hF
 replace hF : ref04_others_j7 p0 j40 = some ra := hF
 unfold ref04_others_j7 at hF
 exact ⟨j40, hF, (by kernel_rfl)⟩
 rcases if_inv hF with ⟨h41, hF⟩ | ⟨h41, hF⟩
 refine yT h41 S83 ?_
 refine ysg ⟨[E2, E4, E8, (98, vb (decide ((IntKind.wrap .i32 p2) < (IntKind.wrap .i32 p0.Limit_))))], [B5, B7], H⟩ ?_
 rcases if_inv hF with ⟨h42, hF⟩ | ⟨h42, hF⟩
 refine yT h42 S87 ?_
 refine w_seq ?_
 obtain ⟨r43, c44, hF⟩ := bind1_inv hF
 let E63 : EN := (100, .agg (m1_ref04_Cpu r43))
 refine w_regO ⟨[E4], [(6, (m1_ref04_Cpu r43))], H⟩ ?_ ?_
 refine yr 1 S112 ?_
 refine o_one ⟨[E2, E4, E62, E63], [B5, B7], H⟩ (yc (some 100) true false S112 (ok_ref04_trap H c44)) ?_
 refine yr 1 ⟨[E2, E4, E62, E63], [B5, (6, (m1_ref04_Cpu r43))], H⟩ ?_
 exact ye
 refine w_ret ?_
 obtain e0 := some1_inv hF
 subst e0
 exact yp (.agg (m1_ref04_Cpu r43))
 refine yF h42 S86 ?_
 refine w_skip ?_
 exact ⟨p0, hF, (by kernel_rfl)⟩
 refine yF h41 ⟨[E2, E3, E4, E8, E9], [B5, B6, B7], H⟩ ?_
 refine ysg ⟨[E2, E3, E4, E8, (101, vb (p1.Op_ == 33))], [B5, B6, B7], H⟩ ?_
 refine w_join (α := (T_ref04_Cpu)) (fun x => (⟨[E2, E4, E8], [(3, (m1_ref04_Cpu x)), B7], H⟩ : St)) (fun x => ref04_others_j8 p0 x = some ra) ?_ ?_
 rintro j45 hF
 replace hF : ref04_others_j8 p0 j45 = some ra := hF
 unfold ref04_others_j8 at hF
 exact ⟨j45, hF, (by kernel_rfl)⟩
 rcases if_inv hF with ⟨h46, hF⟩ | ⟨h46, hF⟩
 refine yT h46 S103 ?_
 refine w_seq ?_
 refine ysg ⟨[E2, E3, E4, E8, (105, vb (decide (p1.Imm_ > 1)))], [B5, B6, B7], H⟩ ?_
 rcases if_inv hF with ⟨h47, hF⟩ | ⟨h47, hF⟩
 refine yT h47 S87 ?_
 refine w_seq ?_
 obtain ⟨r48, c49, hF⟩ := bind1_inv hF
 let E65 : EN := (107, .agg (m1_ref04_Cpu r48))
 refine w_regO ⟨[E4], [(6, (m1_ref04_Cpu r48))], H⟩ ?_ ?_
 refine yr 1 S113 ?_
 refine o_one ⟨[E2, E4, E64, E65], [B5, B7], H⟩ (yc (some 107) true false S113 (ok_ref04_fault H c49)) ?_
 refine yr 1 ⟨[E2, E4, E64, E65], [B5, (6, (m1_ref04_Cpu r48))], H⟩ ?_
 exact ye
 refine w_ret ?_
 obtain e0 := some1_inv hF
 subst e0
 exact yp (.agg (m1_ref04_Cpu r48))
 refine yF h47 S103 ?_
 refine w_skip ?_
 refine w_seq ?_
 obtain ⟨v50, h51, hF⟩ := bind1_inv hF
 obtain ⟨v52, h53, hF⟩ := bind1_inv hF
 let B66 : EB := (3, (arM .u32 16 v52 ++ [(.top, .int .u32 p0.PC_), (.top, .int .u32 p0.EPC_), (.top, .int .u32 p0.Cause_), (.top, .int .i64 p0.State_), (.top, .int .i64 p0.Why_), (.top, .int .i64 p0.Steps_), (.top, .int .i64 p0.Taken_), ((.own 0), .sl 2 (List.map e_api_Event p0.Out_)), (.top, .int .u32 p0.Entry_), (.top, .int .u32 p0.Vector_), (.top, .int .u32 p0.Guard_), (.top, .int .u32 p0.Limit_), ((.own 0), .sl 1 (List.map (eI .i32) p0.Input_))]))
 let S114 : St := ⟨[E2, E3, E4, E8], [B66, B6, B7], H⟩
 let S117 : St := ⟨[E2, E3, E4, E8, E74, E75, E76, E77, E78], [B66, B6, B7], H⟩
 let S118 : St := ⟨[E2, E3, E4, E8, E74, E75, E76, E77, E78, E79], [B66, B6, B7], H⟩
 refine w_regO S114 ?_ ?_
 refine yr 5 S115 ?_
 refine o_one S116 (st_ixL (X := X) S115 46 35 16 h51 3 0 (some 113) (by kernel_rfl) (by kernel_rfl) (by kernel_rfl) (by kernel_rfl)) ?_
 refine o_one ⟨[E2, E3, E4, E8, E67, E68, E69, E70, E71, E72], [B66, B6, B7], H⟩ (st_stL (X := X) S116 35 16 h53 3 0 (m1_ref04_Cpu p0) (fun q => .int .u32 q) ⟨true, []⟩ (by kernel_rfl) (by kernel_rfl) (by kernel_rfl) (by kernel_rfl) (by kernel_rfl) (fun _ => rfl) (by kernel_rfl)) ?_
 exact ye
 refine ysg ⟨[E2, E3, E4, E8, (116, vb (p1.Imm_ == 1))], [B66, B6, B7], H⟩ ?_
 refine w_join (α := (T_ref04_Cpu)) (fun x => (⟨[E2, E4, E8], [(3, (m1_ref04_Cpu x)), B7], H⟩ : St)) (fun x => ref04_others_j9 p0 x = some ra) ?_ ?_
 rintro j54 hF
 replace hF : ref04_others_j9 p0 j54 = some ra := hF
 unfold ref04_others_j9 at hF
 exact ⟨j54, hF, (by kernel_rfl)⟩
 rcases if_inv hF with ⟨h55, hF⟩ | ⟨h55, hF⟩
 refine yT h55 S114 ?_
 obtain ⟨v56, h57, hF⟩ := bind1_inv hF
 obtain ⟨v58, h59, hF⟩ := bind1_inv hF
 let B73 : EB := (3, (arM .u32 16 v58 ++ [(.top, .int .u32 p0.PC_), (.top, .int .u32 p0.EPC_), (.top, .int .u32 p0.Cause_), (.top, .int .i64 p0.State_), (.top, .int .i64 p0.Why_), (.top, .int .i64 p0.Steps_), (.top, .int .i64 p0.Taken_), ((.own 0), .sl 2 (List.map e_api_Event p0.Out_)), (.top, .int .u32 p0.Entry_), (.top, .int .u32 p0.Vector_), (.top, .int .u32 p0.Guard_), (.top, .int .u32 p0.Limit_), ((.own 0), .sl 1 (List.map (eI .i32) p0.Input_))]))
 refine w_regO ⟨[E2, E4, E8], [B73, B7], H⟩ ?_ ?_
 refine yr 5 S117 ?_
 refine o_one S118 (st_ixL (X := X) S117 46 35 16 h57 3 0 (some 122) (by kernel_rfl) (by kernel_rfl) (by kernel_rfl) (by kernel_rfl)) ?_
 refine o_one ⟨[E2, E3, E4, E8, E74, E75, E76, E77, E78, E79], [B73, B6, B7], H⟩ (st_stL (X := X) S118 35 16 h59 3 0 (arM .u32 16 v52 ++ [(.top, .int .u32 p0.PC_), (.top, .int .u32 p0.EPC_), (.top, .int .u32 p0.Cause_), (.top, .int .i64 p0.State_), (.top, .int .i64 p0.Why_), (.top, .int .i64 p0.Steps_), (.top, .int .i64 p0.Taken_), ((.own 0), .sl 2 (List.map e_api_Event p0.Out_)), (.top, .int .u32 p0.Entry_), (.top, .int .u32 p0.Vector_), (.top, .int .u32 p0.Guard_), (.top, .int .u32 p0.Limit_), ((.own 0), .sl 1 (List.map (eI .i32) p0.Input_))]) (fun q => .int .u32 q) ⟨true, []⟩ (by kernel_rfl) (by kernel_rfl) (by kernel_rfl) (by kernel_rfl) (by kernel_rfl) (fun _ => rfl) (by kernel_rfl)) ?_
 exact ye
 exact ⟨(T_ref04_Cpu.mk v58 p0.PC_ p0.EPC_ p0.Cause_ p0.State_ p0.Why_ p0.Steps_ p0.Taken_ p0.Out_ p0.Entry_ p0.Vector_ p0.Guard_ p0.Limit_ p0.Input_), hF, (by kernel_rfl)⟩
 refine yF h55 ⟨[E2, E4, E8], [B66, B7], H⟩ ?_
 refine w_skip ?_
 exact ⟨(T_ref04_Cpu.mk v52 p0.PC_ p0.EPC_ p0.Cause_ p0.State_ p0.Why_ p0.Steps_ p0.Taken_ p0.Out_ p0.Entry_ p0.Vector_ p0.Guard_ p0.Limit_ p0.Input_), hF, (by kernel_rfl)⟩
 refine yF h46 S86 ?_
 refine w_skip ?_
 exact ⟨p0, hF, (by kernel_rfl)⟩
noncomputable def ref04_do_j1 (j20 : Int) (j21 : T_ref04_Cpu) (j22 : T_ref03_Mem) : Option (T_ref04_Cpu × T_ref03_Mem) :=
  some ((T_ref04_Cpu.mk j21.R_ j20 j21.EPC_ j21.Cause_ j21.State_ j21.Why_ j21.Steps_ j21.Taken_ j21.Out_ j21.Entry_ j21.Vector_ j21.Guard_ j21.Limit_ j21.Input_), j22)
noncomputable def ref04_do_j2 (j28 : Int) (j29 : T_ref04_Cpu) (j30 : T_ref03_Mem) : Option (T_ref04_Cpu × T_ref03_Mem) :=
  ref04_do_j1 j28 j29 j30
noncomputable def ref04_do_j3 (j36 : Int) (j37 : T_ref04_Cpu) (j38 : T_ref03_Mem) : Option (T_ref04_Cpu × T_ref03_Mem) :=
  ref04_do_j2 j36 j37 j38
noncomputable def ref04_do_j4 (j44 : Int) (j45 : T_ref04_Cpu) (j46 : T_ref03_Mem) : Option (T_ref04_Cpu × T_ref03_Mem) :=
  ref04_do_j3 j44 j45 j46
noncomputable def ref04_do_j5 (j52 : Int) (j53 : T_ref04_Cpu) (j54 : T_ref03_Mem) : Option (T_ref04_Cpu × T_ref03_Mem) :=
  ref04_do_j4 j52 j53 j54
noncomputable def ref04_do_j6 (j60 : Int) (j61 : T_ref04_Cpu) (j62 : T_ref03_Mem) : Option (T_ref04_Cpu × T_ref03_Mem) :=
  ref04_do_j5 j60 j61 j62
noncomputable def ref04_do_j7 (j74 : Int) (j75 : T_ref04_Cpu) (j76 : T_ref03_Mem) : Option (T_ref04_Cpu × T_ref03_Mem) :=
  ref04_do_j6 j74 j75 j76
noncomputable def ref04_do_j8 (p1 : T_ref03_Mem) (j84 : Int) (j85 : T_ref04_Cpu) : Option (T_ref04_Cpu × T_ref03_Mem) :=
  ref04_do_j7 j84 j85 p1
noncomputable def ref04_do_j9 (p1 : T_ref03_Mem) (p0 : T_ref04_Cpu) (j87 : Int) : Option (T_ref04_Cpu × T_ref03_Mem) :=
  ref04_do_j8 p1 j87 p0
noncomputable def ref04_do_j10 (p1 : T_ref03_Mem) (j89 : Int) (j90 : T_ref04_Cpu) : Option (T_ref04_Cpu × T_ref03_Mem) :=
  ref04_do_j8 p1 j89 j90
noncomputable def ref04_do_j11 (p1 : T_ref03_Mem) (p0 : T_ref04_Cpu) (j92 : Int) : Option (T_ref04_Cpu × T_ref03_Mem) :=
  ref04_do_j10 p1 j92 p0
noncomputable def ref04_do_j12 (p1 : T_ref03_Mem) (p0 : T_ref04_Cpu) (p2 : T_ref02_Instr) (j94 : T_ref04_Cpu) : Option (T_ref04_Cpu × T_ref03_Mem) :=
  ref04_do_j10 p1 (IntKind.wrap .u32 ((IntKind.wrap .u32 (p0.PC_ + 4)) + (IntKind.wrap .u32 (4 * (IntKind.wrap .u32 p2.Imm_))))) j94
noncomputable def ref04_do  (p0 : T_ref04_Cpu) (p1 : T_ref03_Mem) (p2 : T_ref02_Instr) : Option (T_ref04_Cpu × T_ref03_Mem) :=
  bind1 (ga p0.R_ p2.A_) fun v1 =>
  bind1 (ga p0.R_ p2.B_) fun v3 =>
  if ((decide (p2.Op_ ≥ 6)) && (decide (p2.Op_ ≤ 17))) = true then (bind1 (ga p0.R_ p2.C_) fun v7 =>
  bind2 (ref04_reckon p2.Op_ v3 v7) fun r9 r10 =>
  if (!r10) = true then (bind1 (ref04_trap p0 3) fun r13 =>
  some (r13, p1))
  else (bind1 (ga p0.R_ p2.A_) fun v15 =>
  bind1 (sa p0.R_ p2.A_ r9) fun v17 =>
  some ((T_ref04_Cpu.mk v17 (IntKind.wrap .u32 (p0.PC_ + 4)) p0.EPC_ p0.Cause_ p0.State_ p0.Why_ p0.Steps_ p0.Taken_ p0.Out_ p0.Entry_ p0.Vector_ p0.Guard_ p0.Limit_ p0.Input_), p1)))
  else (if (p2.Op_ == 1) = true then (some ((T_ref04_Cpu.mk p0.R_ p0.PC_ p0.EPC_ p0.Cause_ 1 p0.Why_ p0.Steps_ p0.Taken_ p0.Out_ p0.Entry_ p0.Vector_ p0.Guard_ p0.Limit_ p0.Input_), p1))
  else (if (p2.Op_ == 2) = true then (bind1 (ga p0.R_ p2.A_) fun v24 =>
  bind1 (sa p0.R_ p2.A_ (IntKind.wrap .u32 p2.Imm_)) fun v26 =>
  ref04_do_j1 (IntKind.wrap .u32 (p0.PC_ + 4)) (T_ref04_Cpu.mk v26 p0.PC_ p0.EPC_ p0.Cause_ p0.State_ p0.Why_ p0.Steps_ p0.Taken_ p0.Out_ p0.Entry_ p0.Vector_ p0.Guard_ p0.Limit_ p0.Input_) p1)
  else (if (p2.Op_ == 3) = true then (bind1 (ga p0.R_ p2.A_) fun v32 =>
  bind1 (sa p0.R_ p2.A_ (IntKind.wrap .u32 ((IntKind.wrap .u32 p2.Imm_) * 65536))) fun v34 =>
  ref04_do_j2 (IntKind.wrap .u32 (p0.PC_ + 4)) (T_ref04_Cpu.mk v34 p0.PC_ p0.EPC_ p0.Cause_ p0.State_ p0.Why_ p0.Steps_ p0.Taken_ p0.Out_ p0.Entry_ p0.Vector_ p0.Guard_ p0.Limit_ p0.Input_) p1)
  else (if (p2.Op_ == 4) = true then (bind1 (ga p0.R_ p2.A_) fun v40 =>
  bind1 (sa p0.R_ p2.A_ (bitsOf .or .u32 v3 (IntKind.wrap .u32 p2.Imm_))) fun v42 =>
  ref04_do_j3 (IntKind.wrap .u32 (p0.PC_ + 4)) (T_ref04_Cpu.mk v42 p0.PC_ p0.EPC_ p0.Cause_ p0.State_ p0.Why_ p0.Steps_ p0.Taken_ p0.Out_ p0.Entry_ p0.Vector_ p0.Guard_ p0.Limit_ p0.Input_) p1)
  else (if (p2.Op_ == 5) = true then (bind1 (ga p0.R_ p2.A_) fun v48 =>
  bind1 (sa p0.R_ p2.A_ (IntKind.wrap .u32 (v3 + (IntKind.wrap .u32 p2.Imm_)))) fun v50 =>
  ref04_do_j4 (IntKind.wrap .u32 (p0.PC_ + 4)) (T_ref04_Cpu.mk v50 p0.PC_ p0.EPC_ p0.Cause_ p0.State_ p0.Why_ p0.Steps_ p0.Taken_ p0.Out_ p0.Entry_ p0.Vector_ p0.Guard_ p0.Limit_ p0.Input_) p1)
  else (if (p2.Op_ == 34) = true then (bind1 (ga p0.R_ p2.A_) fun v56 =>
  bind1 (sa p0.R_ p2.A_ (bitsOf .xor .u32 v3 (IntKind.wrap .u32 p2.Imm_))) fun v58 =>
  ref04_do_j5 (IntKind.wrap .u32 (p0.PC_ + 4)) (T_ref04_Cpu.mk v58 p0.PC_ p0.EPC_ p0.Cause_ p0.State_ p0.Why_ p0.Steps_ p0.Taken_ p0.Out_ p0.Entry_ p0.Vector_ p0.Guard_ p0.Limit_ p0.Input_) p1)
  else (if (p2.Op_ == 18) = true then (bind2 (ref03_Load p1 (IntKind.wrap .u32 (v3 + (IntKind.wrap .u32 p2.Imm_)))) fun r64 r65 =>
  if (r65 != 0) = true then (bind1 (ref04_fault p0 r65) fun r68 =>
  some (r68, p1))
  else (bind1 (ga p0.R_ p2.A_) fun v70 =>
  bind1 (sa p0.R_ p2.A_ r64) fun v72 =>
  ref04_do_j6 (IntKind.wrap .u32 (p0.PC_ + 4)) (T_ref04_Cpu.mk v72 p0.PC_ p0.EPC_ p0.Cause_ p0.State_ p0.Why_ p0.Steps_ p0.Taken_ p0.Out_ p0.Entry_ p0.Vector_ p0.Guard_ p0.Limit_ p0.Input_) p1))
  else (if (p2.Op_ == 19) = true then (bind2 (ref03_Store p1 (IntKind.wrap .u32 (v3 + (IntKind.wrap .u32 p2.Imm_))) v1) fun r78 r79 =>
  if (r79 != 0) = true then (bind1 (ref04_fault p0 r79) fun r82 =>
  some (r82, p1))
  else (ref04_do_j7 (IntKind.wrap .u32 (p0.PC_ + 4)) p0 r78))
  else (if (p2.Op_ == 20) = true then (if (v1 == 0) = true then (ref04_do_j9 p1 p0 (IntKind.wrap .u32 ((IntKind.wrap .u32 (p0.PC_ + 4)) + (IntKind.wrap .u32 (4 * (IntKind.wrap .u32 p2.Imm_))))))
  else (ref04_do_j9 p1 p0 (IntKind.wrap .u32 (p0.PC_ + 4))))
  else (if (p2.Op_ == 21) = true then (if (v1 != 0) = true then (ref04_do_j11 p1 p0 (IntKind.wrap .u32 ((IntKind.wrap .u32 (p0.PC_ + 4)) + (IntKind.wrap .u32 (4 * (IntKind.wrap .u32 p2.Imm_))))))
  else (ref04_do_j11 p1 p0 (IntKind.wrap .u32 (p0.PC_ + 4))))
  else (if (p2.Op_ == 22) = true then (ref04_do_j12 p1 p0 p2 p0)
  else (if (p2.Op_ == 23) = true then (ref04_do_j12 p1 p0 p2 (T_ref04_Cpu.mk (arrL [(p0.R_.g 0), (p0.R_.g 1), (p0.R_.g 2), (p0.R_.g 3), (p0.R_.g 4), (p0.R_.g 5), (p0.R_.g 6), (p0.R_.g 7), (p0.R_.g 8), (p0.R_.g 9), (p0.R_.g 10), (p0.R_.g 11), (p0.R_.g 12), (p0.R_.g 13), (IntKind.wrap .u32 (p0.PC_ + 4)), (p0.R_.g 15)] : Arr 16 Int) p0.PC_ p0.EPC_ p0.Cause_ p0.State_ p0.Why_ p0.Steps_ p0.Taken_ p0.Out_ p0.Entry_ p0.Vector_ p0.Guard_ p0.Limit_ p0.Input_))
  else (bind1 (ref04_others p0 p2 v1) fun r97 =>
  some (r97, p1))))))))))))))
theorem ok_ref04_do (H : Heap) {p0 : T_ref04_Cpu} {p1 : T_ref03_Mem} {p2 : T_ref02_Instr} {ra : T_ref04_Cpu} {rb : T_ref03_Mem} (hF : ref04_do p0 p1 p2 = some (ra, rb)) : evS X 98 [.agg (m1_ref04_Cpu p0), .agg (m0_ref03_Mem p1), .agg (m0_ref02_Instr p2)] H = some (.tup [.agg (m1_ref04_Cpu ra), .agg (m0_ref03_Mem rb)], H) := by
 let E1 : EN := (3, vl 3 0)
 let E2 : EN := (4, vl 4 0)
 let E3 : EN := (5, vl 5 0)
 let E4 : EN := (6, vl 6 0)
 let E5 : EN := (7, vl 7 0)
 let B6 : EB := (3, (m1_ref04_Cpu p0))
 let B7 : EB := (4, (m0_ref03_Mem p1))
 let B8 : EB := (5, (m0_ref02_Instr p2))
 let B9 : EB := (6, (List.replicate 19 (.top, .int .u32 0) ++ List.replicate 4 (.top, .int .i64 0) ++ [((.own 1), .sl 2 (List.map e_api_Event ([] : List T_api_Event)))] ++ List.replicate 4 (.top, .int .u32 0) ++ [((.own 1), .sl 1 (List.map (eI .i32) ([] : List Int)))]))
 let B10 : EB := (7, (List.replicate 5 (.top, .int .u32 0) ++ [((.own 1), .sl 1 (List.map (eI .u32) ([] : List Int)))]))
 let E13 : EN := (20, vl 5 1)
 let E14 : EN := (21, vi p2.A_)
 let E15 : EN := (22, vl 3 0)
 let E16 : EN := (23, vl 3 (0 + Int.toNat p2.A_))
 let E18 : EN := (25, vl 5 2)
 let E19 : EN := (26, vi p2.B_)
 let E20 : EN := (27, vl 3 0)
 let E21 : EN := (28, vl 3 (0 + Int.toNat p2.B_))
 let E22 : EN := (10, vu (IntKind.wrap .u32 p2.Imm_))
 let E23 : EN := (11, vu p0.PC_)
 let E24 : EN := (12, vu (IntKind.wrap .u32 (p0.PC_ + 4)))
 let E25 : EN := (13, vu (IntKind.wrap .u32 ((IntKind.wrap .u32 (p0.PC_ + 4)) + (IntKind.wrap .u32 (4 * (IntKind.wrap .u32 p2.Imm_))))))
 let E26 : EN := (42, vl 5 0)
 let E27 : EN := (43, vi p2.Op_)
 let E29 : EN := (51, vl 5 0)
 let E30 : EN := (52, vi p2.Op_)
 let E32 : EN := (54, vl 5 3)
 let E33 : EN := (55, vi p2.C_)
 let E34 : EN := (56, vl 3 0)
 let E35 : EN := (57, vl 3 (0 + Int.toNat p2.C_))
 let B41 : EB := (7, (m0_ref03_Mem p1))
 let E42 : EN := (64, .agg (m1_ref04_Cpu p0))
 let E43 : EN := (66, .agg (m0_ref03_Mem p1))
 let E46 : EN := (67, vl 5 1)
 let E47 : EN := (68, vi p2.A_)
 let E49 : EN := (70, vl 3 0)
 let E50 : EN := (71, vl 3 (0 + Int.toNat p2.A_))
 let E54 : EN := (75, .agg (m0_ref03_Mem p1))
 let E55 : EN := (77, vi p2.Op_)
 let B56 : EB := (3, (arM .u32 16 p0.R_ ++ [(.top, .int .u32 p0.PC_), (.top, .int .u32 p0.EPC_), (.top, .int .u32 p0.Cause_), (.top, .int .i64 1), (.top, .int .i64 p0.Why_), (.top, .int .i64 p0.Steps_), (.top, .int .i64 p0.Taken_), ((.own 0), .sl 2 (List.map e_api_Event p0.Out_)), (.top, .int .u32 p0.Entry_), (.top, .int .u32 p0.Vector_), (.top, .int .u32 p0.Guard_), (.top, .int .u32 p0.Limit_), ((.own 0), .sl 1 (List.map (eI .i32) p0.Input_))]))
 let B57 : EB := (6, (arM .u32 16 p0.R_ ++ [(.top, .int .u32 p0.PC_), (.top, .int .u32 p0.EPC_), (.top, .int .u32 p0.Cause_), (.top, .int .i64 1), (.top, .int .i64 p0.Why_), (.top, .int .i64 p0.Steps_), (.top, .int .i64 p0.Taken_), ((.own 0), .sl 2 (List.map e_api_Event p0.Out_)), (.top, .int .u32 p0.Entry_), (.top, .int .u32 p0.Vector_), (.top, .int .u32 p0.Guard_), (.top, .int .u32 p0.Limit_), ((.own 0), .sl 1 (List.map (eI .i32) p0.Input_))]))
 let E58 : EN := (86, .agg (arM .u32 16 p0.R_ ++ [(.top, .int .u32 p0.PC_), (.top, .int .u32 p0.EPC_), (.top, .int .u32 p0.Cause_), (.top, .int .i64 1), (.top, .int .i64 p0.Why_), (.top, .int .i64 p0.Steps_), (.top, .int .i64 p0.Taken_), ((.own 0), .sl 2 (List.map e_api_Event p0.Out_)), (.top, .int .u32 p0.Entry_), (.top, .int .u32 p0.Vector_), (.top, .int .u32 p0.Guard_), (.top, .int .u32 p0.Limit_), ((.own 0), .sl 1 (List.map (eI .i32) p0.Input_))]))
 let E59 : EN := (87, .agg (m0_ref03_Mem p1))
 let E66 : EN := (90, vl 5 1)
 let E67 : EN := (91, vi p2.A_)
 let E68 : EN := (92, vu (IntKind.wrap .u32 p2.Imm_))
 let E69 : EN := (93, vl 3 0)
 let E70 : EN := (94, vl 3 (0 + Int.toNat p2.A_))
 let E72 : EN := (97, vl 5 1)
 let E73 : EN := (98, vi p2.A_)
 let E74 : EN := (99, vu (IntKind.wrap .u32 p2.Imm_))
 let E75 : EN := (100, vu (IntKind.wrap .u32 ((IntKind.wrap .u32 p2.Imm_) * 65536)))
 let E76 : EN := (101, vl 3 0)
 let E77 : EN := (102, vl 3 (0 + Int.toNat p2.A_))
 let E79 : EN := (105, vl 5 1)
 let E80 : EN := (106, vi p2.A_)
 let E82 : EN := (108, vu (IntKind.wrap .u32 p2.Imm_))
 let E84 : EN := (110, vl 3 0)
 let E85 : EN := (111, vl 3 (0 + Int.toNat p2.A_))
 let E87 : EN := (114, vl 5 1)
 let E88 : EN := (115, vi p2.A_)
 let E90 : EN := (117, vu (IntKind.wrap .u32 p2.Imm_))
 let E92 : EN := (119, vl 3 0)
 let E93 : EN := (120, vl 3 (0 + Int.toNat p2.A_))
 let E95 : EN := (123, vl 5 1)
 let E96 : EN := (124, vi p2.A_)
 let E98 : EN := (126, vu (IntKind.wrap .u32 p2.Imm_))
 let E100 : EN := (128, vl 3 0)
 let E101 : EN := (129, vl 3 (0 + Int.toNat p2.A_))
 let E104 : EN := (133, .agg (m0_ref03_Mem p1))
 let E106 : EN := (135, vu (IntKind.wrap .u32 p2.Imm_))
 let E110 : EN := (142, .agg (m1_ref04_Cpu p0))
 let E112 : EN := (145, .agg (m0_ref03_Mem p1))
 let E115 : EN := (146, vl 5 1)
 let E116 : EN := (147, vi p2.A_)
 let E118 : EN := (149, vl 3 0)
 let E119 : EN := (150, vl 3 (0 + Int.toNat p2.A_))
 let E120 : EN := (18, vl 18 0)
 let E123 : EN := (154, .agg (m0_ref03_Mem p1))
 let E125 : EN := (156, vu (IntKind.wrap .u32 p2.Imm_))
 let E130 : EN := (164, .agg (m1_ref04_Cpu p0))
 let E132 : EN := (167, .agg (m0_ref03_Mem p1))
 let E134 : EN := (12, vu (IntKind.wrap .u32 ((IntKind.wrap .u32 (p0.PC_ + 4)) + (IntKind.wrap .u32 (4 * (IntKind.wrap .u32 p2.Imm_))))))
 let B135 : EB := (3, (arM .u32 14 p0.R_ ++ [(.top, .int .u32 (IntKind.wrap .u32 (p0.PC_ + 4))), (.top, .int .u32 (p0.R_.g 15)), (.top, .int .u32 p0.PC_), (.top, .int .u32 p0.EPC_), (.top, .int .u32 p0.Cause_), (.top, .int .i64 p0.State_), (.top, .int .i64 p0.Why_), (.top, .int .i64 p0.Steps_), (.top, .int .i64 p0.Taken_), ((.own 0), .sl 2 (List.map e_api_Event p0.Out_)), (.top, .int .u32 p0.Entry_), (.top, .int .u32 p0.Vector_), (.top, .int .u32 p0.Guard_), (.top, .int .u32 p0.Limit_), ((.own 0), .sl 1 (List.map (eI .i32) p0.Input_))]))
 let E137 : EN := (78, .agg (m1_ref04_Cpu p0))
 let E138 : EN := (79, .agg (m0_ref02_Instr p2))
 let E140 : EN := (82, .agg (m0_ref03_Mem p1))
 let S142 : St := ⟨[E1, E2, E3, E4, E5, E13, E14, E15], [B6, B7, B8, B9, B10], H⟩
 let S143 : St := ⟨[E1, E2, E3, E4, E5, E13, E14, E15, E16], [B6, B7, B8, B9, B10], H⟩
 let S150 : St := ⟨[E1, E2, E4, E5], [B6, B7, B9, B10], H⟩
 let S151 : St := ⟨[E1, E2, E4, E5, E42, E43], [B6, B7, B9, B10], H⟩
 let S155 : St := ⟨[E1, E2, E3, E4, E5, E22, E24], [B6, B7, B8, B9, B10], H⟩
 let S156 : St := ⟨[E1, E2, E3, E4, E5, E22, E24, E66, E67, E68, E69], [B6, B7, B8, B9, B10], H⟩
 let S157 : St := ⟨[E1, E2, E3, E4, E5, E22, E24, E66, E67, E68, E69, E70], [B6, B7, B8, B9, B10], H⟩
 let S158 : St := ⟨[E1, E2, E3, E4, E5, E22, E24, E72, E73, E74, E75, E76], [B6, B7, B8, B9, B10], H⟩
 let S159 : St := ⟨[E1, E2, E3, E4, E5, E22, E24, E72, E73, E74, E75, E76, E77], [B6, B7, B8, B9, B10], H⟩
 let S175 : St := ⟨[E1, E2, E4, E5, E25], [B6, B7, B9, B10], H⟩
 let S176 : St := ⟨[E1, E2, E4, E5, E134], [B6, B7, B9, B10], H⟩
 let S177 : St := ⟨[E1, E2, E4, E5, E24], [B6, B7, B9, B10], H⟩
 refine yf Try.func98 true ⟨[(0, .agg (m1_ref04_Cpu p0)), (1, .agg (m0_ref03_Mem p1)), (2, .agg (m0_ref02_Instr p2))], [], H⟩ ?_
 unfold ref04_do at hF
 refine ysg ⟨[E1, E2, E3, E4, E5], [B6, B7, B8, B9, B10], H⟩ ?_
 refine w_seq ?_
 obtain ⟨v1, h2, hF⟩ := bind1_inv hF
 let E11 : EN := (8, vu v1)
 let E17 : EN := (24, vu v1)
 let E127 : EN := (158, vu v1)
 let E139 : EN := (80, vu v1)
 let S144 : St := ⟨[E1, E2, E3, E4, E5, E13, E14, E15, E16, E17, E18, E19, E20], [B6, B7, B8, B9, B10], H⟩
 let S145 : St := ⟨[E1, E2, E3, E4, E5, E13, E14, E15, E16, E17, E18, E19, E20, E21], [B6, B7, B8, B9, B10], H⟩
 let S173 : St := ⟨[E1, E2, E3, E4, E5, E11, E23, E24, E25, E55], [B6, B7, B8, B9, B10], H⟩
 let S174 : St := ⟨[E1, E2, E4, E5, E11, E24, E25], [B6, B7, B9, B10], H⟩
 let S178 : St := ⟨[E1, E2, E3, E4, E5, E11, E23, E25, E55], [B6, B7, B8, B9, B10], H⟩
 let S179 : St := ⟨[E1, E2, E3, E4, E5, E11, E137, E138, E139, E140], [B6, B7, B8, B9, B10], H⟩
 obtain ⟨v3, h4, hF⟩ := bind1_inv hF
 let E12 : EN := (9, vu v3)
 let E31 : EN := (53, vu v3)
 let E81 : EN := (107, vu v3)
 let E83 : EN := (109, vu (bitsOf .or .u32 v3 (IntKind.wrap .u32 p2.Imm_)))
 let E89 : EN := (116, vu v3)
 let E91 : EN := (118, vu (IntKind.wrap .u32 (v3 + (IntKind.wrap .u32 p2.Imm_))))
 let E97 : EN := (125, vu v3)
 let E99 : EN := (127, vu (bitsOf .xor .u32 v3 (IntKind.wrap .u32 p2.Imm_)))
 let E105 : EN := (134, vu v3)
 let E107 : EN := (136, vu (IntKind.wrap .u32 (v3 + (IntKind.wrap .u32 p2.Imm_))))
 let E124 : EN := (155, vu v3)
 let E126 : EN := (157, vu (IntKind.wrap .u32 (v3 + (IntKind.wrap .u32 p2.Imm_))))
 let S146 : St := ⟨[E1, E2, E3, E4, E5, E11, E12, E22, E23, E24, E25], [B6, B7, B8, B9, B10], H⟩
 let S147 : St := ⟨[E1, E2, E3, E4, E5, E12, E24, E29, E30, E31, E32, E33, E34], [B6, B7, B8, B9, B10], H⟩
 let S148 : St := ⟨[E1, E2, E3, E4, E5, E12, E24, E29, E30, E31, E32, E33, E34, E35], [B6, B7, B8, B9, B10], H⟩
 let S154 : St := ⟨[E1, E2, E3, E4, E5, E11, E12, E22, E23, E24, E25, E55], [B6, B7, B8, B9, B10], H⟩
 let S160 : St := ⟨[E1, E2, E3, E4, E5, E12, E22, E24], [B6, B7, B8, B9, B10], H⟩
 let S161 : St := ⟨[E1, E2, E3, E4, E5, E12, E22, E24, E79, E80, E81, E82, E83, E84], [B6, B7, B8, B9, B10], H⟩
 let S162 : St := ⟨[E1, E2, E3, E4, E5, E12, E22, E24, E79, E80, E81, E82, E83, E84, E85], [B6, B7, B8, B9, B10], H⟩
 let S163 : St := ⟨[E1, E2, E3, E4, E5, E12, E22, E24, E87, E88, E89, E90, E91, E92], [B6, B7, B8, B9, B10], H⟩
 let S164 : St := ⟨[E1, E2, E3, E4, E5, E12, E22, E24, E87, E88, E89, E90, E91, E92, E93], [B6, B7, B8, B9, B10], H⟩
 let S165 : St := ⟨[E1, E2, E3, E4, E5, E12, E22, E24, E95, E96, E97, E98, E99, E100], [B6, B7, B8, B9, B10], H⟩
 let S166 : St := ⟨[E1, E2, E3, E4, E5, E12, E22, E24, E95, E96, E97, E98, E99, E100, E101], [B6, B7, B8, B9, B10], H⟩
 let S167 : St := ⟨[E1, E2, E3, E4, E5, E12, E22, E24, E104, E105, E106, E107], [B6, B7, B8, B9, B10], H⟩
 let S171 : St := ⟨[E1, E2, E4, E5, E11, E12, E22, E24, E123, E124, E125, E126, E127], [B6, B7, B9, B10], H⟩
 refine w_regD (.take 0 (.take 1 (.take 2 (.take 3 (.take 4 (.take 5 (.take 6 (.take 7 (.take 8 (.take 9 (.take 10 (.take 11 .done)))))))))))) (by kernel_rfl) (⟨[E1, E2, E3, E4, E5, E11, E12], [B6, B7, B8, B9, B10], H⟩ : St) ?_ ?_
 refine ydk 3 S142 ?_
 refine d_take S143 (st_ixL (X := X) S142 46 35 16 h2 3 0 (some 23) (by kernel_rfl) (by kernel_rfl) (by kernel_rfl) (by kernel_rfl)) ?_
 refine d_take ⟨[E1, E2, E3, E4, E5, E13, E14, E15, E16, E17], [B6, B7, B8, B9, B10], H⟩ (st_ldL (X := X) S143 35 16 h2 3 0 (m1_ref04_Cpu p0) (fun q => .int .u32 q) (some 24) (by kernel_rfl) (by kernel_rfl) (by kernel_rfl) (by kernel_rfl) (by kernel_rfl) (by kernel_rfl)) ?_
 refine ydk 3 S144 ?_
 refine d_take S145 (st_ixL (X := X) S144 46 35 16 h4 3 0 (some 28) (by kernel_rfl) (by kernel_rfl) (by kernel_rfl) (by kernel_rfl)) ?_
 refine d_take ⟨[E1, E2, E3, E4, E5, E13, E14, E15, E16, E17, E18, E19, E20, E21, (29, vu v3)], [B6, B7, B8, B9, B10], H⟩ (st_ldL (X := X) S145 35 16 h4 3 0 (m1_ref04_Cpu p0) (fun q => .int .u32 q) (some 29) (by kernel_rfl) (by kernel_rfl) (by kernel_rfl) (by kernel_rfl) (by kernel_rfl) (by kernel_rfl)) ?_
 refine ydk 2 ⟨[E1, E2, E3, E4, E5, E11, E12, E13, E14, E15, E16, E17, E18, E19, E20, E21, (29, vu v3)], [B6, B7, B8, B9, B10], H⟩ ?_
 exact yde
 refine ysg ⟨[E1, E2, E3, E4, E5, E11, E12, E22], [B6, B7, B8, B9, B10], H⟩ ?_
 refine ysg ⟨[E1, E2, E3, E4, E5, E11, E12, E22, E23], [B6, B7, B8, B9, B10], H⟩ ?_
 refine ysg ⟨[E1, E2, E3, E4, E5, E11, E12, E22, E23, E24], [B6, B7, B8, B9, B10], H⟩ ?_
 refine ysg S146 ?_
 refine w_seq ?_
 refine yso ⟨[E1, E2, E3, E4, E5, E11, E12, E22, E23, E24, E25, (49, vb ((decide (p2.Op_ ≥ 6)) && (decide (p2.Op_ ≤ 17))))], [B6, B7, B8, B9, B10], H⟩ ?_ ?_
 refine yr 4 ⟨[E1, E2, E3, E4, E5, E11, E12, E22, E23, E24, E25, E26, E27, (44, vb (decide (p2.Op_ ≥ 6))), (45, vb (decide (p2.Op_ ≥ 6)))], [B6, B7, B8, B9, B10], H⟩ ?_
 rcases bool_cases (decide (p2.Op_ ≥ 6)) with h5 | h5
 refine o_eq (congrArg (fun q => (⟨[E1, E2, E3, E4, E5, E11, E12, E22, E23, E24, E25, E26, E27, (44, vb q), (45, vb q)], [B6, B7, B8, B9, B10], H⟩ : St)) h5) ?_
 refine yr 4 ⟨[E1, E2, E3, E4, E5, E11, E12, E22, E23, E24, E25, E26, E27, (44, vT), (45, vT), (46, vl 5 0), (47, vi p2.Op_), (48, vb (decide (p2.Op_ ≤ 17))), (49, vb (decide (p2.Op_ ≤ 17)))], [B6, B7, B8, B9, B10], H⟩ ?_
 refine o_eq2 (congrArg (fun q0 => (⟨[E1, E2, E3, E4, E5, E11, E12, E22, E23, E24, E25, (49, vb q0)], [B6, B7, B8, B9, B10], H⟩ : St)) (show (decide (p2.Op_ ≤ 17)) = ((decide (p2.Op_ ≥ 6)) && (decide (p2.Op_ ≤ 17))) by simp [h5])) ?_
 exact ye
 refine o_eq (congrArg (fun q => (⟨[E1, E2, E3, E4, E5, E11, E12, E22, E23, E24, E25, E26, E27, (44, vb q), (45, vb q)], [B6, B7, B8, B9, B10], H⟩ : St)) h5) ?_
 refine yr 4 ⟨[E1, E2, E3, E4, E5, E11, E12, E22, E23, E24, E25, E26, E27, (44, vF), (45, vF), (46, vN), (47, vN), (48, vN), (49, vF)], [B6, B7, B8, B9, B10], H⟩ ?_
 refine o_eq2 (congrArg (fun q0 => (⟨[E1, E2, E3, E4, E5, E11, E12, E22, E23, E24, E25, (49, vb q0)], [B6, B7, B8, B9, B10], H⟩ : St)) (show false = ((decide (p2.Op_ ≥ 6)) && (decide (p2.Op_ ≤ 17))) by simp [h5])) ?_
 exact ye
 rcases if_inv hF with ⟨h6, hF⟩ | ⟨h6, hF⟩
 refine yT h6 ⟨[E1, E2, E3, E4, E5, E12, E24], [B6, B7, B8, B9, B10], H⟩ ?_
 refine w_seq ?_
 obtain ⟨v7, h8, hF⟩ := bind1_inv hF
 let E36 : EN := (58, vu v7)
 let S149 : St := ⟨[E1, E2, E3, E4, E5, E12, E24, E29, E30, E31, E32, E33, E34, E35, E36], [B6, B7, B8, B9, B10], H⟩
 obtain ⟨r9, r10, c11, hF⟩ := bind2_inv hF
 let E28 : EN := (14, vu r9)
 let E37 : EN := (59, .tup [vu r9, vb r10])
 let E38 : EN := (50, .tup [vu r9, vb r10])
 let E39 : EN := (60, vu r9)
 let E48 : EN := (69, vu r9)
 let S152 : St := ⟨[E1, E2, E3, E4, E5, E24, E28, E46, E47, E48, E49], [B6, B7, B8, B9, B10], H⟩
 let S153 : St := ⟨[E1, E2, E3, E4, E5, E24, E28, E46, E47, E48, E49, E50], [B6, B7, B8, B9, B10], H⟩
 refine w_regD (.take 0 (.take 1 (.take 2 (.take 3 (.take 4 (.take 5 (.take 6 (.last 7 (.last 8 (.take 9 (.take 10 (.take 11 (.take 12 (.take 13 .done)))))))))))))) (by kernel_rfl) (⟨[E1, E2, E3, E4, E5, E24, E28, (15, vb r10)], [B6, B7, B8, B9, B10], H⟩ : St) ?_ ?_
 refine ydk 6 S147 ?_
 refine d_take S148 (st_ixL (X := X) S147 46 35 16 h8 3 0 (some 57) (by kernel_rfl) (by kernel_rfl) (by kernel_rfl) (by kernel_rfl)) ?_
 refine d_last S149 (st_ldL (X := X) S148 35 16 h8 3 0 (m1_ref04_Cpu p0) (fun q => .int .u32 q) (some 58) (by kernel_rfl) (by kernel_rfl) (by kernel_rfl) (by kernel_rfl) (by kernel_rfl) (by kernel_rfl)) ?_
 refine d_last ⟨[E1, E2, E3, E4, E5, E12, E24, E29, E30, E31, E32, E33, E34, E35, E36, E37], [B6, B7, B8, B9, B10], H⟩ (yc (some 59) true false S149 (ok_ref04_reckon H c11)) ?_
 refine ydk 5 ⟨[E1, E2, E3, E4, E5, E12, E24, E28, (15, vb r10), E38, E29, E30, E31, E32, E33, E34, E35, E36, E37, E39, (61, vb r10)], [B6, B7, B8, B9, B10], H⟩ ?_
 exact yde
 refine w_seq ?_
 refine ysg ⟨[E1, E2, E3, E4, E5, E24, E28, (63, vb (!r10))], [B6, B7, B8, B9, B10], H⟩ ?_
 rcases if_inv hF with ⟨h12, hF⟩ | ⟨h12, hF⟩
 refine yT h12 S150 ?_
 refine w_seq ?_
 obtain ⟨r13, c14, hF⟩ := bind1_inv hF
 let B40 : EB := (6, (m1_ref04_Cpu r13))
 let E44 : EN := (65, .agg (m1_ref04_Cpu r13))
 refine w_regD (.take 0 (.take 2 (.last 1 (.last 3 (.last 4 .done))))) (by kernel_rfl) (⟨[E4, E5], [B40, B41], H⟩ : St) ?_ ?_
 refine ydk 2 S151 ?_
 refine d_last ⟨[E1, E2, E4, E5, E42, E44, E43], [B6, B7, B9, B10], H⟩ (yc (some 65) true false S151 (ok_ref04_trap H c14)) ?_
 refine ydl ⟨[E1, E2, E4, E5, E42, E44, E43], [B6, B7, B40, B10], H⟩ ?_
 refine ydl ⟨[E1, E2, E4, E5, E42, E44, E43], [B6, B7, B40, B41], H⟩ ?_
 exact yde
 refine w_ret ?_
 obtain ⟨e0, e1⟩ := some2_inv hF
 subst e0
 subst e1
 exact yp (.tup [.agg (m1_ref04_Cpu r13), .agg (m0_ref03_Mem p1)])
 refine yF h12 ⟨[E1, E2, E3, E4, E5, E24, E28], [B6, B7, B8, B9, B10], H⟩ ?_
 refine w_skip ?_
 refine w_seq ?_
 obtain ⟨v15, h16, hF⟩ := bind1_inv hF
 obtain ⟨v17, h18, hF⟩ := bind1_inv hF
 let B45 : EB := (3, (arM .u32 16 v17 ++ [(.top, .int .u32 p0.PC_), (.top, .int .u32 p0.EPC_), (.top, .int .u32 p0.Cause_), (.top, .int .i64 p0.State_), (.top, .int .i64 p0.Why_), (.top, .int .i64 p0.Steps_), (.top, .int .i64 p0.Taken_), ((.own 0), .sl 2 (List.map e_api_Event p0.Out_)), (.top, .int .u32 p0.Entry_), (.top, .int .u32 p0.Vector_), (.top, .int .u32 p0.Guard_), (.top, .int .u32 p0.Limit_), ((.own 0), .sl 1 (List.map (eI .i32) p0.Input_))]))
 let B51 : EB := (3, (arM .u32 16 v17 ++ [(.top, .int .u32 (IntKind.wrap .u32 (p0.PC_ + 4))), (.top, .int .u32 p0.EPC_), (.top, .int .u32 p0.Cause_), (.top, .int .i64 p0.State_), (.top, .int .i64 p0.Why_), (.top, .int .i64 p0.Steps_), (.top, .int .i64 p0.Taken_), ((.own 0), .sl 2 (List.map e_api_Event p0.Out_)), (.top, .int .u32 p0.Entry_), (.top, .int .u32 p0.Vector_), (.top, .int .u32 p0.Guard_), (.top, .int .u32 p0.Limit_), ((.own 0), .sl 1 (List.map (eI .i32) p0.Input_))]))
 let B52 : EB := (6, (arM .u32 16 v17 ++ [(.top, .int .u32 (IntKind.wrap .u32 (p0.PC_ + 4))), (.top, .int .u32 p0.EPC_), (.top, .int .u32 p0.Cause_), (.top, .int .i64 p0.State_), (.top, .int .i64 p0.Why_), (.top, .int .i64 p0.Steps_), (.top, .int .i64 p0.Taken_), ((.own 0), .sl 2 (List.map e_api_Event p0.Out_)), (.top, .int .u32 p0.Entry_), (.top, .int .u32 p0.Vector_), (.top, .int .u32 p0.Guard_), (.top, .int .u32 p0.Limit_), ((.own 0), .sl 1 (List.map (eI .i32) p0.Input_))]))
 let E53 : EN := (74, .agg (arM .u32 16 v17 ++ [(.top, .int .u32 (IntKind.wrap .u32 (p0.PC_ + 4))), (.top, .int .u32 p0.EPC_), (.top, .int .u32 p0.Cause_), (.top, .int .i64 p0.State_), (.top, .int .i64 p0.Why_), (.top, .int .i64 p0.Steps_), (.top, .int .i64 p0.Taken_), ((.own 0), .sl 2 (List.map e_api_Event p0.Out_)), (.top, .int .u32 p0.Entry_), (.top, .int .u32 p0.Vector_), (.top, .int .u32 p0.Guard_), (.top, .int .u32 p0.Limit_), ((.own 0), .sl 1 (List.map (eI .i32) p0.Input_))]))
 refine w_regO ⟨[E1, E2, E4, E5, E24], [B45, B7, B9, B10], H⟩ ?_ ?_
 refine yr 4 S152 ?_
 refine o_one S153 (st_ixL (X := X) S152 46 35 16 h16 3 0 (some 71) (by kernel_rfl) (by kernel_rfl) (by kernel_rfl) (by kernel_rfl)) ?_
 refine o_one ⟨[E1, E2, E3, E4, E5, E24, E28, E46, E47, E48, E49, E50], [B45, B7, B8, B9, B10], H⟩ (st_stL (X := X) S153 35 16 h18 3 0 (m1_ref04_Cpu p0) (fun q => .int .u32 q) ⟨true, []⟩ (by kernel_rfl) (by kernel_rfl) (by kernel_rfl) (by kernel_rfl) (by kernel_rfl) (fun _ => rfl) (by kernel_rfl)) ?_
 exact ye
 refine ysg ⟨[E1, E2, E4, E5], [B51, B7, B9, B10], H⟩ ?_
 refine w_seq ?_
 refine w_regD (.take 0 (.take 1 (.last 2 (.last 3 .done)))) (by kernel_rfl) (⟨[E4, E5], [B52, B41], H⟩ : St) ?_ ?_
 refine ydk 2 ⟨[E1, E2, E4, E5, E53, E54], [B51, B7, B9, B10], H⟩ ?_
 refine ydl ⟨[E1, E2, E4, E5, E53, E54], [B51, B7, B52, B10], H⟩ ?_
 refine ydl ⟨[E1, E2, E4, E5, E53, E54], [B51, B7, B52, B41], H⟩ ?_
 exact yde
 refine w_ret ?_
 obtain ⟨e0, e1⟩ := some2_inv hF
 subst e0
 subst e1
 exact yp (.tup [.agg (arM .u32 16 v17 ++ [(.top, .int .u32 (IntKind.wrap .u32 (p0.PC_ + 4))), (.top, .int .u32 p0.EPC_), (.top, .int .u32 p0.Cause_), (.top, .int .i64 p0.State_), (.top, .int .i64 p0.Why_), (.top, .int .i64 p0.Steps_), (.top, .int .i64 p0.Taken_), ((.own 0), .sl 2 (List.map e_api_Event p0.Out_)), (.top, .int .u32 p0.Entry_), (.top, .int .u32 p0.Vector_), (.top, .int .u32 p0.Guard_), (.top, .int .u32 p0.Limit_), ((.own 0), .sl 1 (List.map (eI .i32) p0.Input_))]), .agg (m0_ref03_Mem p1)])
 refine yF h6 S146 ?_
 refine w_skip ?_
 refine w_seq ?_
 refine ysg S154 ?_
 refine w_block ?_
 refine ysg ⟨[E1, E2, E3, E4, E5, E11, E12, E22, E23, E24, E25, E55, (83, vb (p2.Op_ == 1))], [B6, B7, B8, B9, B10], H⟩ ?_
 rcases if_inv hF with ⟨h19, hF⟩ | ⟨h19, hF⟩
 refine yT h19 S150 ?_
 refine ysg ⟨[E1, E2, E4, E5], [B56, B7, B9, B10], H⟩ ?_
 refine w_seq ?_
 refine w_regD (.take 0 (.take 1 (.last 2 (.last 3 .done)))) (by kernel_rfl) (⟨[E4, E5], [B57, B41], H⟩ : St) ?_ ?_
 refine ydk 2 ⟨[E1, E2, E4, E5, E58, E59], [B56, B7, B9, B10], H⟩ ?_
 refine ydl ⟨[E1, E2, E4, E5, E58, E59], [B56, B7, B57, B10], H⟩ ?_
 refine ydl ⟨[E1, E2, E4, E5, E58, E59], [B56, B7, B57, B41], H⟩ ?_
 exact yde
 refine w_ret ?_
 obtain ⟨e0, e1⟩ := some2_inv hF
 subst e0
 subst e1
 exact yp (.tup [.agg (arM .u32 16 p0.R_ ++ [(.top, .int .u32 p0.PC_), (.top, .int .u32 p0.EPC_), (.top, .int .u32 p0.Cause_), (.top, .int .i64 1), (.top, .int .i64 p0.Why_), (.top, .int .i64 p0.Steps_), (.top, .int .i64 p0.Taken_), ((.own 0), .sl 2 (List.map e_api_Event p0.Out_)), (.top, .int .u32 p0.Entry_), (.top, .int .u32 p0.Vector_), (.top, .int .u32 p0.Guard_), (.top, .int .u32 p0.Limit_), ((.own 0), .sl 1 (List.map (eI .i32) p0.Input_))]), .agg (m0_ref03_Mem p1)])
 refine yF h19 S154 ?_
 refine ysg ⟨[E1, E2, E3, E4, E5, E11, E12, E22, E23, E24, E25, E55, (88, vb (p2.Op_ == 2))], [B6, B7, B8, B9, B10], H⟩ ?_
 refine w_join (α := (Int × T_ref04_Cpu × T_ref03_Mem)) (fun x => (⟨[E1, E2, E4, E5, (12, vu x.1)], [(3, (m1_ref04_Cpu x.2.1)), (4, (m0_ref03_Mem x.2.2)), B9, B10], H⟩ : St)) (fun x => ref04_do_j1 x.1 x.2.1 x.2.2 = some (ra, rb)) ?_ ?_
 rintro ⟨j20, j21, j22⟩ hF
 replace hF : ref04_do_j1 j20 j21 j22 = some (ra, rb) := hF
 let B60 : EB := (3, (arM .u32 16 j21.R_ ++ [(.top, .int .u32 j20), (.top, .int .u32 j21.EPC_), (.top, .int .u32 j21.Cause_), (.top, .int .i64 j21.State_), (.top, .int .i64 j21.Why_), (.top, .int .i64 j21.Steps_), (.top, .int .i64 j21.Taken_), ((.own 0), .sl 2 (List.map e_api_Event j21.Out_)), (.top, .int .u32 j21.Entry_), (.top, .int .u32 j21.Vector_), (.top, .int .u32 j21.Guard_), (.top, .int .u32 j21.Limit_), ((.own 0), .sl 1 (List.map (eI .i32) j21.Input_))]))
 let B61 : EB := (4, (m0_ref03_Mem j22))
 let B62 : EB := (6, (arM .u32 16 j21.R_ ++ [(.top, .int .u32 j20), (.top, .int .u32 j21.EPC_), (.top, .int .u32 j21.Cause_), (.top, .int .i64 j21.State_), (.top, .int .i64 j21.Why_), (.top, .int .i64 j21.Steps_), (.top, .int .i64 j21.Taken_), ((.own 0), .sl 2 (List.map e_api_Event j21.Out_)), (.top, .int .u32 j21.Entry_), (.top, .int .u32 j21.Vector_), (.top, .int .u32 j21.Guard_), (.top, .int .u32 j21.Limit_), ((.own 0), .sl 1 (List.map (eI .i32) j21.Input_))]))
 let E63 : EN := (191, .agg (arM .u32 16 j21.R_ ++ [(.top, .int .u32 j20), (.top, .int .u32 j21.EPC_), (.top, .int .u32 j21.Cause_), (.top, .int .i64 j21.State_), (.top, .int .i64 j21.Why_), (.top, .int .i64 j21.Steps_), (.top, .int .i64 j21.Taken_), ((.own 0), .sl 2 (List.map e_api_Event j21.Out_)), (.top, .int .u32 j21.Entry_), (.top, .int .u32 j21.Vector_), (.top, .int .u32 j21.Guard_), (.top, .int .u32 j21.Limit_), ((.own 0), .sl 1 (List.map (eI .i32) j21.Input_))]))
 let E64 : EN := (192, .agg (m0_ref03_Mem j22))
 unfold ref04_do_j1 at hF
 refine ysg ⟨[E1, E2, E4, E5], [B60, B61, B9, B10], H⟩ ?_
 refine w_seq ?_
 refine w_regD (.take 0 (.take 1 (.last 2 (.last 3 .done)))) (by kernel_rfl) (⟨[E4, E5], [B62, (7, (m0_ref03_Mem j22))], H⟩ : St) ?_ ?_
 refine ydk 2 ⟨[E1, E2, E4, E5, E63, E64], [B60, B61, B9, B10], H⟩ ?_
 refine ydl ⟨[E1, E2, E4, E5, E63, E64], [B60, B61, B62, B10], H⟩ ?_
 refine ydl ⟨[E1, E2, E4, E5, E63, E64], [B60, B61, B62, (7, (m0_ref03_Mem j22))], H⟩ ?_
 exact yde
 refine w_ret ?_
 obtain ⟨e0, e1⟩ := some2_inv hF
 subst e0
 subst e1
 exact yp (.tup [.agg (arM .u32 16 j21.R_ ++ [(.top, .int .u32 j20), (.top, .int .u32 j21.EPC_), (.top, .int .u32 j21.Cause_), (.top, .int .i64 j21.State_), (.top, .int .i64 j21.Why_), (.top, .int .i64 j21.Steps_), (.top, .int .i64 j21.Taken_), ((.own 0), .sl 2 (List.map e_api_Event j21.Out_)), (.top, .int .u32 j21.Entry_), (.top, .int .u32 j21.Vector_), (.top, .int .u32 j21.Guard_), (.top, .int .u32 j21.Limit_), ((.own 0), .sl 1 (List.map (eI .i32) j21.Input_))]), .agg (m0_ref03_Mem j22)])
 rcases if_inv hF with ⟨h23, hF⟩ | ⟨h23, hF⟩
 refine yT h23 S155 ?_
 obtain ⟨v24, h25, hF⟩ := bind1_inv hF
 obtain ⟨v26, h27, hF⟩ := bind1_inv hF
 let B65 : EB := (3, (arM .u32 16 v26 ++ [(.top, .int .u32 p0.PC_), (.top, .int .u32 p0.EPC_), (.top, .int .u32 p0.Cause_), (.top, .int .i64 p0.State_), (.top, .int .i64 p0.Why_), (.top, .int .i64 p0.Steps_), (.top, .int .i64 p0.Taken_), ((.own 0), .sl 2 (List.map e_api_Event p0.Out_)), (.top, .int .u32 p0.Entry_), (.top, .int .u32 p0.Vector_), (.top, .int .u32 p0.Guard_), (.top, .int .u32 p0.Limit_), ((.own 0), .sl 1 (List.map (eI .i32) p0.Input_))]))
 refine w_regO ⟨[E1, E2, E4, E5, E24], [B65, B7, B9, B10], H⟩ ?_ ?_
 refine yr 4 S156 ?_
 refine o_one S157 (st_ixL (X := X) S156 46 35 16 h25 3 0 (some 94) (by kernel_rfl) (by kernel_rfl) (by kernel_rfl) (by kernel_rfl)) ?_
 refine o_one ⟨[E1, E2, E3, E4, E5, E22, E24, E66, E67, E68, E69, E70], [B65, B7, B8, B9, B10], H⟩ (st_stL (X := X) S157 35 16 h27 3 0 (m1_ref04_Cpu p0) (fun q => .int .u32 q) ⟨true, []⟩ (by kernel_rfl) (by kernel_rfl) (by kernel_rfl) (by kernel_rfl) (by kernel_rfl) (fun _ => rfl) (by kernel_rfl)) ?_
 exact ye
 exact ⟨((IntKind.wrap .u32 (p0.PC_ + 4)), (T_ref04_Cpu.mk v26 p0.PC_ p0.EPC_ p0.Cause_ p0.State_ p0.Why_ p0.Steps_ p0.Taken_ p0.Out_ p0.Entry_ p0.Vector_ p0.Guard_ p0.Limit_ p0.Input_), p1), hF, (by kernel_rfl)⟩
 refine yF h23 S154 ?_
 refine ysg ⟨[E1, E2, E3, E4, E5, E11, E12, E22, E23, E24, E25, E55, (95, vb (p2.Op_ == 3))], [B6, B7, B8, B9, B10], H⟩ ?_
 refine w_join (α := (Int × T_ref04_Cpu × T_ref03_Mem)) (fun x => (⟨[E1, E2, E4, E5, (12, vu x.1)], [(3, (m1_ref04_Cpu x.2.1)), (4, (m0_ref03_Mem x.2.2)), B9, B10], H⟩ : St)) (fun x => ref04_do_j2 x.1 x.2.1 x.2.2 = some (ra, rb)) ?_ ?_
 rintro ⟨j28, j29, j30⟩ hF
 replace hF : ref04_do_j2 j28 j29 j30 = some (ra, rb) := hF
 unfold ref04_do_j2 at hF
 exact ⟨(j28, j29, j30), hF, (by kernel_rfl)⟩
 rcases if_inv hF with ⟨h31, hF⟩ | ⟨h31, hF⟩
 refine yT h31 S155 ?_
 obtain ⟨v32, h33, hF⟩ := bind1_inv hF
 obtain ⟨v34, h35, hF⟩ := bind1_inv hF
 let B71 : EB := (3, (arM .u32 16 v34 ++ [(.top, .int .u32 p0.PC_), (.top, .int .u32 p0.EPC_), (.top, .int .u32 p0.Cause_), (.top, .int .i64 p0.State_), (.top, .int .i64 p0.Why_), (.top, .int .i64 p0.Steps_), (.top, .int .i64 p0.Taken_), ((.own 0), .sl 2 (List.map e_api_Event p0.Out_)), (.top, .int .u32 p0.Entry_), (.top, .int .u32 p0.Vector_), (.top, .int .u32 p0.Guard_), (.top, .int .u32 p0.Limit_), ((.own 0), .sl 1 (List.map (eI .i32) p0.Input_))]))
 refine w_regO ⟨[E1, E2, E4, E5, E24], [B71, B7, B9, B10], H⟩ ?_ ?_
 refine yr 5 S158 ?_
 refine o_one S159 (st_ixL (X := X) S158 46 35 16 h33 3 0 (some 102) (by kernel_rfl) (by kernel_rfl) (by kernel_rfl) (by kernel_rfl)) ?_
 refine o_one ⟨[E1, E2, E3, E4, E5, E22, E24, E72, E73, E74, E75, E76, E77], [B71, B7, B8, B9, B10], H⟩ (st_stL (X := X) S159 35 16 h35 3 0 (m1_ref04_Cpu p0) (fun q => .int .u32 q) ⟨true, []⟩ (by kernel_rfl) (by kernel_rfl) (by kernel_rfl) (by kernel_rfl) (by kernel_rfl) (fun _ => rfl) (by kernel_rfl)) ?_
 exact ye
 exact ⟨((IntKind.wrap .u32 (p0.PC_ + 4)), (T_ref04_Cpu.mk v34 p0.PC_ p0.EPC_ p0.Cause_ p0.State_ p0.Why_ p0.Steps_ p0.Taken_ p0.Out_ p0.Entry_ p0.Vector_ p0.Guard_ p0.Limit_ p0.Input_), p1), hF, (by kernel_rfl)⟩
 refine yF h31 S154 ?_
 refine ysg ⟨[E1, E2, E3, E4, E5, E11, E12, E22, E23, E24, E25, E55, (103, vb (p2.Op_ == 4))], [B6, B7, B8, B9, B10], H⟩ ?_
 refine w_join (α := (Int × T_ref04_Cpu × T_ref03_Mem)) (fun x => (⟨[E1, E2, E4, E5, (12, vu x.1)], [(3, (m1_ref04_Cpu x.2.1)), (4, (m0_ref03_Mem x.2.2)), B9, B10], H⟩ : St)) (fun x => ref04_do_j3 x.1 x.2.1 x.2.2 = some (ra, rb)) ?_ ?_
 rintro ⟨j36, j37, j38⟩ hF
 replace hF : ref04_do_j3 j36 j37 j38 = some (ra, rb) := hF
 unfold ref04_do_j3 at hF
 exact ⟨(j36, j37, j38), hF, (by kernel_rfl)⟩
 rcases if_inv hF with ⟨h39, hF⟩ | ⟨h39, hF⟩
 refine yT h39 S160 ?_
 obtain ⟨v40, h41, hF⟩ := bind1_inv hF
 obtain ⟨v42, h43, hF⟩ := bind1_inv hF
 let B78 : EB := (3, (arM .u32 16 v42 ++ [(.top, .int .u32 p0.PC_), (.top, .int .u32 p0.EPC_), (.top, .int .u32 p0.Cause_), (.top, .int .i64 p0.State_), (.top, .int .i64 p0.Why_), (.top, .int .i64 p0.Steps_), (.top, .int .i64 p0.Taken_), ((.own 0), .sl 2 (List.map e_api_Event p0.Out_)), (.top, .int .u32 p0.Entry_), (.top, .int .u32 p0.Vector_), (.top, .int .u32 p0.Guard_), (.top, .int .u32 p0.Limit_), ((.own 0), .sl 1 (List.map (eI .i32) p0.Input_))]))
 refine w_regO ⟨[E1, E2, E4, E5, E24], [B78, B7, B9, B10], H⟩ ?_ ?_
 refine yr 6 S161 ?_
 refine o_one S162 (st_ixL (X := X) S161 46 35 16 h41 3 0 (some 111) (by kernel_rfl) (by kernel_rfl) (by kernel_rfl) (by kernel_rfl)) ?_
 refine o_one ⟨[E1, E2, E3, E4, E5, E12, E22, E24, E79, E80, E81, E82, E83, E84, E85], [B78, B7, B8, B9, B10], H⟩ (st_stL (X := X) S162 35 16 h43 3 0 (m1_ref04_Cpu p0) (fun q => .int .u32 q) ⟨true, []⟩ (by kernel_rfl) (by kernel_rfl) (by kernel_rfl) (by kernel_rfl) (by kernel_rfl) (fun _ => rfl) (by kernel_rfl)) ?_
 exact ye
 exact ⟨((IntKind.wrap .u32 (p0.PC_ + 4)), (T_ref04_Cpu.mk v42 p0.PC_ p0.EPC_ p0.Cause_ p0.State_ p0.Why_ p0.Steps_ p0.Taken_ p0.Out_ p0.Entry_ p0.Vector_ p0.Guard_ p0.Limit_ p0.Input_), p1), hF, (by kernel_rfl)⟩
 refine yF h39 S154 ?_
 refine ysg ⟨[E1, E2, E3, E4, E5, E11, E12, E22, E23, E24, E25, E55, (112, vb (p2.Op_ == 5))], [B6, B7, B8, B9, B10], H⟩ ?_
 refine w_join (α := (Int × T_ref04_Cpu × T_ref03_Mem)) (fun x => (⟨[E1, E2, E4, E5, (12, vu x.1)], [(3, (m1_ref04_Cpu x.2.1)), (4, (m0_ref03_Mem x.2.2)), B9, B10], H⟩ : St)) (fun x => ref04_do_j4 x.1 x.2.1 x.2.2 = some (ra, rb)) ?_ ?_
 rintro ⟨j44, j45, j46⟩ hF
 replace hF : ref04_do_j4 j44 j45 j46 = some (ra, rb) := hF
 unfold ref04_do_j4 at hF
 exact ⟨(j44, j45, j46), hF, (by kernel_rfl)⟩
 rcases if_inv hF with ⟨h47, hF⟩ | ⟨h47, hF⟩
 refine yT h47 S160 ?_
 obtain ⟨v48, h49, hF⟩ := bind1_inv hF
 obtain ⟨v50, h51, hF⟩ := bind1_inv hF
 let B86 : EB := (3, (arM .u32 16 v50 ++ [(.top, .int .u32 p0.PC_), (.top, .int .u32 p0.EPC_), (.top, .int .u32 p0.Cause_), (.top, .int .i64 p0.State_), (.top, .int .i64 p0.Why_), (.top, .int .i64 p0.Steps_), (.top, .int .i64 p0.Taken_), ((.own 0), .sl 2 (List.map e_api_Event p0.Out_)), (.top, .int .u32 p0.Entry_), (.top, .int .u32 p0.Vector_), (.top, .int .u32 p0.Guard_), (.top, .int .u32 p0.Limit_), ((.own 0), .sl 1 (List.map (eI .i32) p0.Input_))]))
 refine w_regO ⟨[E1, E2, E4, E5, E24], [B86, B7, B9, B10], H⟩ ?_ ?_
 refine yr 6 S163 ?_
 refine o_one S164 (st_ixL (X := X) S163 46 35 16 h49 3 0 (some 120) (by kernel_rfl) (by kernel_rfl) (by kernel_rfl) (by kernel_rfl)) ?_
 refine o_one ⟨[E1, E2, E3, E4, E5, E12, E22, E24, E87, E88, E89, E90, E91, E92, E93], [B86, B7, B8, B9, B10], H⟩ (st_stL (X := X) S164 35 16 h51 3 0 (m1_ref04_Cpu p0) (fun q => .int .u32 q) ⟨true, []⟩ (by kernel_rfl) (by kernel_rfl) (by kernel_rfl) (by kernel_rfl) (by kernel_rfl) (fun _ => rfl) (by kernel_rfl)) ?_
 exact ye
 exact ⟨((IntKind.wrap .u32 (p0.PC_ + 4)), (T_ref04_Cpu.mk v50 p0.PC_ p0.EPC_ p0.Cause_ p0.State_ p0.Why_ p0.Steps_ p0.Taken_ p0.Out_ p0.Entry_ p0.Vector_ p0.Guard_ p0.Limit_ p0.Input_), p1), hF, (by kernel_rfl)⟩
 refine yF h47 S154 ?_
 refine ysg ⟨[E1, E2, E3, E4, E5, E11, E12, E22, E23, E24, E25, E55, (121, vb (p2.Op_ == 34))], [B6, B7, B8, B9, B10], H⟩ ?_
 refine w_join (α := (Int × T_ref04_Cpu × T_ref03_Mem)) (fun x => (⟨[E1, E2, E4, E5, (12, vu x.1)], [(3, (m1_ref04_Cpu x.2.1)), (4, (m0_ref03_Mem x.2.2)), B9, B10], H⟩ : St)) (fun x => ref04_do_j5 x.1 x.2.1 x.2.2 = some (ra, rb)) ?_ ?_
 rintro ⟨j52, j53, j54⟩ hF
 replace hF : ref04_do_j5 j52 j53 j54 = some (ra, rb) := hF
 unfold ref04_do_j5 at hF
 exact ⟨(j52, j53, j54), hF, (by kernel_rfl)⟩
 rcases if_inv hF with ⟨h55, hF⟩ | ⟨h55, hF⟩
 refine yT h55 S160 ?_
 obtain ⟨v56, h57, hF⟩ := bind1_inv hF
 obtain ⟨v58, h59, hF⟩ := bind1_inv hF
 let B94 : EB := (3, (arM .u32 16 v58 ++ [(.top, .int .u32 p0.PC_), (.top, .int .u32 p0.EPC_), (.top, .int .u32 p0.Cause_), (.top, .int .i64 p0.State_), (.top, .int .i64 p0.Why_), (.top, .int .i64 p0.Steps_), (.top, .int .i64 p0.Taken_), ((.own 0), .sl 2 (List.map e_api_Event p0.Out_)), (.top, .int .u32 p0.Entry_), (.top, .int .u32 p0.Vector_), (.top, .int .u32 p0.Guard_), (.top, .int .u32 p0.Limit_), ((.own 0), .sl 1 (List.map (eI .i32) p0.Input_))]))
 refine w_regO ⟨[E1, E2, E4, E5, E24], [B94, B7, B9, B10], H⟩ ?_ ?_
 refine yr 6 S165 ?_
 refine o_one S166 (st_ixL (X := X) S165 46 35 16 h57 3 0 (some 129) (by kernel_rfl) (by kernel_rfl) (by kernel_rfl) (by kernel_rfl)) ?_
 refine o_one ⟨[E1, E2, E3, E4, E5, E12, E22, E24, E95, E96, E97, E98, E99, E100, E101], [B94, B7, B8, B9, B10], H⟩ (st_stL (X := X) S166 35 16 h59 3 0 (m1_ref04_Cpu p0) (fun q => .int .u32 q) ⟨true, []⟩ (by kernel_rfl) (by kernel_rfl) (by kernel_rfl) (by kernel_rfl) (by kernel_rfl) (fun _ => rfl) (by kernel_rfl)) ?_
 exact ye
 exact ⟨((IntKind.wrap .u32 (p0.PC_ + 4)), (T_ref04_Cpu.mk v58 p0.PC_ p0.EPC_ p0.Cause_ p0.State_ p0.Why_ p0.Steps_ p0.Taken_ p0.Out_ p0.Entry_ p0.Vector_ p0.Guard_ p0.Limit_ p0.Input_), p1), hF, (by kernel_rfl)⟩
 refine yF h55 S154 ?_
 refine ysg ⟨[E1, E2, E3, E4, E5, E11, E12, E22, E23, E24, E25, E55, (130, vb (p2.Op_ == 18))], [B6, B7, B8, B9, B10], H⟩ ?_
 refine w_join (α := (Int × T_ref04_Cpu × T_ref03_Mem)) (fun x => (⟨[E1, E2, E4, E5, (12, vu x.1)], [(3, (m1_ref04_Cpu x.2.1)), (4, (m0_ref03_Mem x.2.2)), B9, B10], H⟩ : St)) (fun x => ref04_do_j6 x.1 x.2.1 x.2.2 = some (ra, rb)) ?_ ?_
 rintro ⟨j60, j61, j62⟩ hF
 replace hF : ref04_do_j6 j60 j61 j62 = some (ra, rb) := hF
 unfold ref04_do_j6 at hF
 exact ⟨(j60, j61, j62), hF, (by kernel_rfl)⟩
 rcases if_inv hF with ⟨h63, hF⟩ | ⟨h63, hF⟩
 refine yT h63 S160 ?_
 refine w_seq ?_
 obtain ⟨r64, r65, c66, hF⟩ := bind2_inv hF
 let E102 : EN := (16, vu r64)
 let E103 : EN := (17, vi r65)
 let E108 : EN := (137, .tup [vu r64, vi r65])
 let E111 : EN := (143, vi r65)
 let E117 : EN := (148, vu r64)
 let S168 : St := ⟨[E1, E2, E4, E5, E103, E110, E111, E112], [B6, B7, B9, B10], H⟩
 let S169 : St := ⟨[E1, E2, E3, E4, E5, E24, E102, E115, E116, E117, E118], [B6, B7, B8, B9, B10], H⟩
 let S170 : St := ⟨[E1, E2, E3, E4, E5, E24, E102, E115, E116, E117, E118, E119], [B6, B7, B8, B9, B10], H⟩
 refine w_regO ⟨[E1, E2, E3, E4, E5, E24, E102, E103], [B6, B7, B8, B9, B10], H⟩ ?_ ?_
 refine yr 4 S167 ?_
 refine o_one ⟨[E1, E2, E3, E4, E5, E12, E22, E24, E104, E105, E106, E107, E108], [B6, B7, B8, B9, B10], H⟩ (yc (some 137) true false S167 (ok_ref03_Load H c66)) ?_
 refine yr 5 ⟨[E1, E2, E3, E4, E5, E12, E22, E24, E102, E103, (132, .tup [vu r64, vi r65]), E104, E105, E106, E107, E108, (138, vu r64), (139, vi r65)], [B6, B7, B8, B9, B10], H⟩ ?_
 exact ye
 refine w_seq ?_
 refine ysg ⟨[E1, E2, E3, E4, E5, E24, E102, E103, (141, vb (r65 != 0))], [B6, B7, B8, B9, B10], H⟩ ?_
 rcases if_inv hF with ⟨h67, hF⟩ | ⟨h67, hF⟩
 refine yT h67 ⟨[E1, E2, E4, E5, E103], [B6, B7, B9, B10], H⟩ ?_
 refine w_seq ?_
 obtain ⟨r68, c69, hF⟩ := bind1_inv hF
 let B109 : EB := (6, (m1_ref04_Cpu r68))
 let E113 : EN := (144, .agg (m1_ref04_Cpu r68))
 refine w_regD (.take 0 (.take 1 (.take 3 (.last 2 (.last 4 (.last 5 .done)))))) (by kernel_rfl) (⟨[E4, E5], [B109, B41], H⟩ : St) ?_ ?_
 refine ydk 3 S168 ?_
 refine d_last ⟨[E1, E2, E4, E5, E103, E110, E111, E113, E112], [B6, B7, B9, B10], H⟩ (yc (some 144) true false S168 (ok_ref04_fault H c69)) ?_
 refine ydl ⟨[E1, E2, E4, E5, E103, E110, E111, E113, E112], [B6, B7, B109, B10], H⟩ ?_
 refine ydl ⟨[E1, E2, E4, E5, E103, E110, E111, E113, E112], [B6, B7, B109, B41], H⟩ ?_
 exact yde
 refine w_ret ?_
 obtain ⟨e0, e1⟩ := some2_inv hF
 subst e0
 subst e1
 exact yp (.tup [.agg (m1_ref04_Cpu r68), .agg (m0_ref03_Mem p1)])
 refine yF h67 ⟨[E1, E2, E3, E4, E5, E24, E102], [B6, B7, B8, B9, B10], H⟩ ?_
 refine w_skip ?_
 obtain ⟨v70, h71, hF⟩ := bind1_inv hF
 obtain ⟨v72, h73, hF⟩ := bind1_inv hF
 let B114 : EB := (3, (arM .u32 16 v72 ++ [(.top, .int .u32 p0.PC_), (.top, .int .u32 p0.EPC_), (.top, .int .u32 p0.Cause_), (.top, .int .i64 p0.State_), (.top, .int .i64 p0.Why_), (.top, .int .i64 p0.Steps_), (.top, .int .i64 p0.Taken_), ((.own 0), .sl 2 (List.map e_api_Event p0.Out_)), (.top, .int .u32 p0.Entry_), (.top, .int .u32 p0.Vector_), (.top, .int .u32 p0.Guard_), (.top, .int .u32 p0.Limit_), ((.own 0), .sl 1 (List.map (eI .i32) p0.Input_))]))
 refine w_regO ⟨[E1, E2, E4, E5, E24], [B114, B7, B9, B10], H⟩ ?_ ?_
 refine yr 4 S169 ?_
 refine o_one S170 (st_ixL (X := X) S169 46 35 16 h71 3 0 (some 150) (by kernel_rfl) (by kernel_rfl) (by kernel_rfl) (by kernel_rfl)) ?_
 refine o_one ⟨[E1, E2, E3, E4, E5, E24, E102, E115, E116, E117, E118, E119], [B114, B7, B8, B9, B10], H⟩ (st_stL (X := X) S170 35 16 h73 3 0 (m1_ref04_Cpu p0) (fun q => .int .u32 q) ⟨true, []⟩ (by kernel_rfl) (by kernel_rfl) (by kernel_rfl) (by kernel_rfl) (by kernel_rfl) (fun _ => rfl) (by kernel_rfl)) ?_
 exact ye
 exact ⟨((IntKind.wrap .u32 (p0.PC_ + 4)), (T_ref04_Cpu.mk v72 p0.PC_ p0.EPC_ p0.Cause_ p0.State_ p0.Why_ p0.Steps_ p0.Taken_ p0.Out_ p0.Entry_ p0.Vector_ p0.Guard_ p0.Limit_ p0.Input_), p1), hF, (by kernel_rfl)⟩
 refine yF h63 S154 ?_
 refine ysg ⟨[E1, E2, E3, E4, E5, E11, E12, E22, E23, E24, E25, E55, (151, vb (p2.Op_ == 19))], [B6, B7, B8, B9, B10], H⟩ ?_
 refine w_join (α := (Int × T_ref04_Cpu × T_ref03_Mem)) (fun x => (⟨[E1, E2, E4, E5, (12, vu x.1)], [(3, (m1_ref04_Cpu x.2.1)), (4, (m0_ref03_Mem x.2.2)), B9, B10], H⟩ : St)) (fun x => ref04_do_j7 x.1 x.2.1 x.2.2 = some (ra, rb)) ?_ ?_
 rintro ⟨j74, j75, j76⟩ hF
 replace hF : ref04_do_j7 j74 j75 j76 = some (ra, rb) := hF
 unfold ref04_do_j7 at hF
 exact ⟨(j74, j75, j76), hF, (by kernel_rfl)⟩
 rcases if_inv hF with ⟨h77, hF⟩ | ⟨h77, hF⟩
 refine yT h77 ⟨[E1, E2, E4, E5, E11, E12, E22, E24], [B6, B7, B9, B10], H⟩ ?_
 refine w_seq ?_
 obtain ⟨r78, r79, c80, hF⟩ := bind2_inv hF
 let E121 : EN := (19, vi r79)
 let B122 : EB := (18, (m0_ref03_Mem r78))
 let E128 : EN := (159, .tup [.agg (m0_ref03_Mem r78), vi r79])
 let E131 : EN := (165, vi r79)
 let S172 : St := ⟨[E1, E2, E4, E5, E121, E130, E131, E132], [B6, B7, B9, B10], H⟩
 refine w_regO ⟨[E1, E2, E4, E5, E24, E120, E121], [B6, B7, B9, B10, B122], H⟩ ?_ ?_
 refine yr 5 S171 ?_
 refine o_one ⟨[E1, E2, E4, E5, E11, E12, E22, E24, E123, E124, E125, E126, E127, E128], [B6, B7, B9, B10], H⟩ (yc (some 159) true false S171 (ok_ref03_Store H c80)) ?_
 refine yr 6 ⟨[E1, E2, E4, E5, E11, E12, E22, E24, E120, E121, (153, .tup [.agg (m0_ref03_Mem r78), vi r79]), E123, E124, E125, E126, E127, E128, (160, .agg (m0_ref03_Mem r78)), (161, vi r79)], [B6, B7, B9, B10, B122], H⟩ ?_
 exact ye
 refine w_seq ?_
 refine ysg ⟨[E1, E2, E4, E5, E24, E120, E121, (163, vb (r79 != 0))], [B6, B7, B9, B10, B122], H⟩ ?_
 rcases if_inv hF with ⟨h81, hF⟩ | ⟨h81, hF⟩
 refine yT h81 ⟨[E1, E2, E4, E5, E121], [B6, B7, B9, B10], H⟩ ?_
 refine w_seq ?_
 obtain ⟨r82, c83, hF⟩ := bind1_inv hF
 let B129 : EB := (6, (m1_ref04_Cpu r82))
 let E133 : EN := (166, .agg (m1_ref04_Cpu r82))
 refine w_regD (.take 0 (.take 1 (.take 3 (.last 2 (.last 4 (.last 5 .done)))))) (by kernel_rfl) (⟨[E4, E5], [B129, B41], H⟩ : St) ?_ ?_
 refine ydk 3 S172 ?_
 refine d_last ⟨[E1, E2, E4, E5, E121, E130, E131, E133, E132], [B6, B7, B9, B10], H⟩ (yc (some 166) true false S172 (ok_ref04_fault H c83)) ?_
 refine ydl ⟨[E1, E2, E4, E5, E121, E130, E131, E133, E132], [B6, B7, B129, B10], H⟩ ?_
 refine ydl ⟨[E1, E2, E4, E5, E121, E130, E131, E133, E132], [B6, B7, B129, B41], H⟩ ?_
 exact yde
 refine w_ret ?_
 obtain ⟨e0, e1⟩ := some2_inv hF
 subst e0
 subst e1
 exact yp (.tup [.agg (m1_ref04_Cpu r82), .agg (m0_ref03_Mem p1)])
 refine yF h81 ⟨[E1, E2, E4, E5, E24, E120], [B6, B7, B9, B10, B122], H⟩ ?_
 refine w_skip ?_
 refine yg ⟨[E1, E2, E4, E5, E24], [B6, (4, (m0_ref03_Mem r78)), B9, B10], H⟩ ?_
 exact ⟨((IntKind.wrap .u32 (p0.PC_ + 4)), p0, r78), hF, (by kernel_rfl)⟩
 refine yF h77 S173 ?_
 refine ysg ⟨[E1, E2, E3, E4, E5, E11, E23, E24, E25, E55, (169, vb (p2.Op_ == 20))], [B6, B7, B8, B9, B10], H⟩ ?_
 refine w_join (α := (Int × T_ref04_Cpu)) (fun x => (⟨[E1, E2, E4, E5, (12, vu x.1)], [(3, (m1_ref04_Cpu x.2)), B7, B9, B10], H⟩ : St)) (fun x => ref04_do_j8 p1 x.1 x.2 = some (ra, rb)) ?_ ?_
 rintro ⟨j84, j85⟩ hF
 replace hF : ref04_do_j8 p1 j84 j85 = some (ra, rb) := hF
 unfold ref04_do_j8 at hF
 exact ⟨(j84, j85, p1), hF, (by kernel_rfl)⟩
 rcases if_inv hF with ⟨h86, hF⟩ | ⟨h86, hF⟩
 refine yT h86 S174 ?_
 refine ysg ⟨[E1, E2, E4, E5, E24, E25, (172, vb (v1 == 0))], [B6, B7, B9, B10], H⟩ ?_
 refine w_join (α := (Int)) (fun x => (⟨[E1, E2, E4, E5, (12, vu x)], [B6, B7, B9, B10], H⟩ : St)) (fun x => ref04_do_j9 p1 p0 x = some (ra, rb)) ?_ ?_
 rintro j87 hF
 replace hF : ref04_do_j9 p1 p0 j87 = some (ra, rb) := hF
 unfold ref04_do_j9 at hF
 exact ⟨(j87, p0), hF, (by kernel_rfl)⟩
 rcases if_inv hF with ⟨h88, hF⟩ | ⟨h88, hF⟩
 refine yT h88 S175 ?_
 refine yg S176 ?_
 exact ⟨(IntKind.wrap .u32 ((IntKind.wrap .u32 (p0.PC_ + 4)) + (IntKind.wrap .u32 (4 * (IntKind.wrap .u32 p2.Imm_))))), hF, (by kernel_rfl)⟩
 refine yF h88 S177 ?_
 refine w_skip ?_
 exact ⟨(IntKind.wrap .u32 (p0.PC_ + 4)), hF, (by kernel_rfl)⟩
 refine yF h86 S173 ?_
 refine ysg ⟨[E1, E2, E3, E4, E5, E11, E23, E24, E25, E55, (174, vb (p2.Op_ == 21))], [B6, B7, B8, B9, B10], H⟩ ?_
 refine w_join (α := (Int × T_ref04_Cpu)) (fun x => (⟨[E1, E2, E4, E5, (12, vu x.1)], [(3, (m1_ref04_Cpu x.2)), B7, B9, B10], H⟩ : St)) (fun x => ref04_do_j10 p1 x.1 x.2 = some (ra, rb)) ?_ ?_
 rintro ⟨j89, j90⟩ hF
 replace hF : ref04_do_j10 p1 j89 j90 = some (ra, rb) := hF
 unfold ref04_do_j10 at hF
 exact ⟨(j89, j90), hF, (by kernel_rfl)⟩
 rcases if_inv hF with ⟨h91, hF⟩ | ⟨h91, hF⟩
 refine yT h91 S174 ?_
 refine ysg ⟨[E1, E2, E4, E5, E24, E25, (177, vb (v1 != 0))], [B6, B7, B9, B10], H⟩ ?_
 refine w_join (α := (Int)) (fun x => (⟨[E1, E2, E4, E5, (12, vu x)], [B6, B7, B9, B10], H⟩ : St)) (fun x => ref04_do_j11 p1 p0 x = some (ra, rb)) ?_ ?_
 rintro j92 hF
 replace hF : ref04_do_j11 p1 p0 j92 = some (ra, rb) := hF
 unfold ref04_do_j11 at hF
 exact ⟨(j92, p0), hF, (by kernel_rfl)⟩
 rcases if_inv hF with ⟨h93, hF⟩ | ⟨h93, hF⟩
 refine yT h93 S175 ?_
 refine yg S176 ?_
 exact ⟨(IntKind.wrap .u32 ((IntKind.wrap .u32 (p0.PC_ + 4)) + (IntKind.wrap .u32 (4 * (IntKind.wrap .u32 p2.Imm_))))), hF, (by kernel_rfl)⟩
 refine yF h93 S177 ?_
 refine w_skip ?_
 exact ⟨(IntKind.wrap .u32 (p0.PC_ + 4)), hF, (by kernel_rfl)⟩
 refine yF h91 S178 ?_
 refine ysg ⟨[E1, E2, E3, E4, E5, E11, E23, E25, E55, (179, vb (p2.Op_ == 22))], [B6, B7, B8, B9, B10], H⟩ ?_
 refine w_join (α := (T_ref04_Cpu)) (fun x => (⟨[E1, E2, E4, E5, E134], [(3, (m1_ref04_Cpu x)), B7, B9, B10], H⟩ : St)) (fun x => ref04_do_j12 p1 p0 p2 x = some (ra, rb)) ?_ ?_
 rintro j94 hF
 replace hF : ref04_do_j12 p1 p0 p2 j94 = some (ra, rb) := hF
 unfold ref04_do_j12 at hF
 exact ⟨((IntKind.wrap .u32 ((IntKind.wrap .u32 (p0.PC_ + 4)) + (IntKind.wrap .u32 (4 * (IntKind.wrap .u32 p2.Imm_))))), j94), hF, (by kernel_rfl)⟩
 rcases if_inv hF with ⟨h95, hF⟩ | ⟨h95, hF⟩
 refine yT h95 S175 ?_
 refine yg S176 ?_
 exact ⟨p0, hF, (by kernel_rfl)⟩
 refine yF h95 S178 ?_
 refine ysg ⟨[E1, E2, E3, E4, E5, E11, E23, E25, (182, vb (p2.Op_ == 23))], [B6, B7, B8, B9, B10], H⟩ ?_
 rcases if_inv hF with ⟨h96, hF⟩ | ⟨h96, hF⟩
 refine yT h96 ⟨[E1, E2, E4, E5, E23, E25], [B6, B7, B9, B10], H⟩ ?_
 refine ysg ⟨[E1, E2, E4, E5, E25], [B135, B7, B9, B10], H⟩ ?_
 refine yg ⟨[E1, E2, E4, E5, E134], [B135, B7, B9, B10], H⟩ ?_
 exact ⟨(T_ref04_Cpu.mk (arrL [(p0.R_.g 0), (p0.R_.g 1), (p0.R_.g 2), (p0.R_.g 3), (p0.R_.g 4), (p0.R_.g 5), (p0.R_.g 6), (p0.R_.g 7), (p0.R_.g 8), (p0.R_.g 9), (p0.R_.g 10), (p0.R_.g 11), (p0.R_.g 12), (p0.R_.g 13), (IntKind.wrap .u32 (p0.PC_ + 4)), (p0.R_.g 15)] : Arr 16 Int) p0.PC_ p0.EPC_ p0.Cause_ p0.State_ p0.Why_ p0.Steps_ p0.Taken_ p0.Out_ p0.Entry_ p0.Vector_ p0.Guard_ p0.Limit_ p0.Input_), hF, (by kernel_rfl)⟩
 refine yF h96 ⟨[E1, E2, E3, E4, E5, E11], [B6, B7, B8, B9, B10], H⟩ ?_
 refine w_seq ?_
 obtain ⟨r97, c98, hF⟩ := bind1_inv hF
 let B136 : EB := (6, (m1_ref04_Cpu r97))
 let E141 : EN := (81, .agg (m1_ref04_Cpu r97))
 refine w_regD (.take 0 (.take 1 (.take 2 (.take 4 (.last 3 (.last 5 (.last 6 .done))))))) (by kernel_rfl) (⟨[E4, E5], [B136, B41], H⟩ : St) ?_ ?_
 refine ydk 4 S179 ?_
 refine d_last ⟨[E1, E2, E3, E4, E5, E11, E137, E138, E139, E141, E140], [B6, B7, B8, B9, B10], H⟩ (yc (some 81) true false S179 (ok_ref04_others H c98)) ?_
 refine ydl ⟨[E1, E2, E3, E4, E5, E11, E137, E138, E139, E141, E140], [B6, B7, B8, B136, B10], H⟩ ?_
 refine ydl ⟨[E1, E2, E3, E4, E5, E11, E137, E138, E139, E141, E140], [B6, B7, B8, B136, B41], H⟩ ?_
 exact yde
 refine w_ret ?_
 obtain ⟨e0, e1⟩ := some2_inv hF
 subst e0
 subst e1
 exact yp (.tup [.agg (m1_ref04_Cpu r97), .agg (m0_ref03_Mem p1)])
noncomputable def ref04_Step  (p0 : T_ref04_Cpu) (p1 : T_ref03_Mem) : Option (T_ref04_Cpu × T_ref03_Mem) :=
  if (p0.State_ != 0) = true then (some (p0, p1))
  else (bind2 (ref03_Fetch p1 p0.PC_) fun r2 r3 =>
  if (r3 != 0) = true then (bind1 (ref04_fault (T_ref04_Cpu.mk p0.R_ p0.PC_ p0.EPC_ p0.Cause_ p0.State_ p0.Why_ (IntKind.wrap .i64 (p0.Steps_ + 1)) p0.Taken_ p0.Out_ p0.Entry_ p0.Vector_ p0.Guard_ p0.Limit_ p0.Input_) r3) fun r6 =>
  some (r6, p1))
  else (bind2 (ref02_Decode r2) fun r8 r9 =>
  if (r9 != 0) = true then (bind1 (ref04_fault (T_ref04_Cpu.mk p0.R_ p0.PC_ p0.EPC_ p0.Cause_ p0.State_ p0.Why_ (IntKind.wrap .i64 (p0.Steps_ + 1)) p0.Taken_ p0.Out_ p0.Entry_ p0.Vector_ p0.Guard_ p0.Limit_ p0.Input_) r9) fun r12 =>
  some (r12, p1))
  else (bind2 (ref04_do (T_ref04_Cpu.mk p0.R_ p0.PC_ p0.EPC_ p0.Cause_ p0.State_ p0.Why_ (IntKind.wrap .i64 (p0.Steps_ + 1)) p0.Taken_ p0.Out_ p0.Entry_ p0.Vector_ p0.Guard_ p0.Limit_ p0.Input_) p1 r8) fun r14 r15 =>
  some (r14, r15))))
theorem ok_ref04_Step (H : Heap) {p0 : T_ref04_Cpu} {p1 : T_ref03_Mem} {ra : T_ref04_Cpu} {rb : T_ref03_Mem} (hF : ref04_Step p0 p1 = some (ra, rb)) : evS X 58 [.agg (m1_ref04_Cpu p0), .agg (m0_ref03_Mem p1)] H = some (.tup [.agg (m1_ref04_Cpu ra), .agg (m0_ref03_Mem rb)], H) := by
 let E1 : EN := (2, vl 2 0)
 let E2 : EN := (3, vl 3 0)
 let E3 : EN := (4, vl 4 0)
 let E4 : EN := (5, vl 5 0)
 let B5 : EB := (2, (m1_ref04_Cpu p0))
 let B6 : EB := (3, (m0_ref03_Mem p1))
 let B7 : EB := (4, (List.replicate 19 (.top, .int .u32 0) ++ List.replicate 4 (.top, .int .i64 0) ++ [((.own 1), .sl 2 (List.map e_api_Event ([] : List T_api_Event)))] ++ List.replicate 4 (.top, .int .u32 0) ++ [((.own 1), .sl 1 (List.map (eI .i32) ([] : List Int)))]))
 let B8 : EB := (5, (List.replicate 5 (.top, .int .u32 0) ++ [((.own 1), .sl 1 (List.map (eI .u32) ([] : List Int)))]))
 let B9 : EB := (4, (m1_ref04_Cpu p0))
 let B10 : EB := (5, (m0_ref03_Mem p1))
 let E11 : EN := (12, .agg (m1_ref04_Cpu p0))
 let E12 : EN := (13, .agg (m0_ref03_Mem p1))
 let B13 : EB := (2, (arM .u32 16 p0.R_ ++ [(.top, .int .u32 p0.PC_), (.top, .int .u32 p0.EPC_), (.top, .int .u32 p0.Cause_), (.top, .int .i64 p0.State_), (.top, .int .i64 p0.Why_), (.top, .int .i64 (IntKind.wrap .i64 (p0.Steps_ + 1))), (.top, .int .i64 p0.Taken_), ((.own 0), .sl 2 (List.map e_api_Event p0.Out_)), (.top, .int .u32 p0.Entry_), (.top, .int .u32 p0.Vector_), (.top, .int .u32 p0.Guard_), (.top, .int .u32 p0.Limit_), ((.own 0), .sl 1 (List.map (eI .i32) p0.Input_))]))
 let E16 : EN := (19, .agg (m0_ref03_Mem p1))
 let E17 : EN := (20, vl 2 16)
 let E18 : EN := (21, vu p0.PC_)
 let E20 : EN := (27, .agg (arM .u32 16 p0.R_ ++ [(.top, .int .u32 p0.PC_), (.top, .int .u32 p0.EPC_), (.top, .int .u32 p0.Cause_), (.top, .int .i64 p0.State_), (.top, .int .i64 p0.Why_), (.top, .int .i64 (IntKind.wrap .i64 (p0.Steps_ + 1))), (.top, .int .i64 p0.Taken_), ((.own 0), .sl 2 (List.map e_api_Event p0.Out_)), (.top, .int .u32 p0.Entry_), (.top, .int .u32 p0.Vector_), (.top, .int .u32 p0.Guard_), (.top, .int .u32 p0.Limit_), ((.own 0), .sl 1 (List.map (eI .i32) p0.Input_))]))
 let E22 : EN := (30, .agg (m0_ref03_Mem p1))
 let E25 : EN := (8, vl 8 0)
 let E30 : EN := (38, .agg (arM .u32 16 p0.R_ ++ [(.top, .int .u32 p0.PC_), (.top, .int .u32 p0.EPC_), (.top, .int .u32 p0.Cause_), (.top, .int .i64 p0.State_), (.top, .int .i64 p0.Why_), (.top, .int .i64 (IntKind.wrap .i64 (p0.Steps_ + 1))), (.top, .int .i64 p0.Taken_), ((.own 0), .sl 2 (List.map e_api_Event p0.Out_)), (.top, .int .u32 p0.Entry_), (.top, .int .u32 p0.Vector_), (.top, .int .u32 p0.Guard_), (.top, .int .u32 p0.Limit_), ((.own 0), .sl 1 (List.map (eI .i32) p0.Input_))]))
 let E32 : EN := (41, .agg (m0_ref03_Mem p1))
 let E34 : EN := (42, .agg (arM .u32 16 p0.R_ ++ [(.top, .int .u32 p0.PC_), (.top, .int .u32 p0.EPC_), (.top, .int .u32 p0.Cause_), (.top, .int .i64 p0.State_), (.top, .int .i64 p0.Why_), (.top, .int .i64 (IntKind.wrap .i64 (p0.Steps_ + 1))), (.top, .int .i64 p0.Taken_), ((.own 0), .sl 2 (List.map e_api_Event p0.Out_)), (.top, .int .u32 p0.Entry_), (.top, .int .u32 p0.Vector_), (.top, .int .u32 p0.Guard_), (.top, .int .u32 p0.Limit_), ((.own 0), .sl 1 (List.map (eI .i32) p0.Input_))]))
 let E35 : EN := (43, .agg (m0_ref03_Mem p1))
 let S38 : St := ⟨[E1, E2, E3, E4], [B5, B6, B7, B8], H⟩
 let S39 : St := ⟨[E1, E2, E3, E4, E16, E17, E18], [B13, B6, B7, B8], H⟩
 refine yf Try.func58 true ⟨[(0, .agg (m1_ref04_Cpu p0)), (1, .agg (m0_ref03_Mem p1))], [], H⟩ ?_
 unfold ref04_Step at hF
 refine ysg S38 ?_
 refine w_seq ?_
 refine ysg ⟨[E1, E2, E3, E4, (11, vb (p0.State_ != 0))], [B5, B6, B7, B8], H⟩ ?_
 rcases if_inv hF with ⟨h1, hF⟩ | ⟨h1, hF⟩
 refine yT h1 S38 ?_
 refine w_seq ?_
 refine w_regD (.take 0 (.take 1 (.last 2 (.last 3 .done)))) (by kernel_rfl) (⟨[E3, E4], [B9, B10], H⟩ : St) ?_ ?_
 refine ydk 2 ⟨[E1, E2, E3, E4, E11, E12], [B5, B6, B7, B8], H⟩ ?_
 refine ydl ⟨[E1, E2, E3, E4, E11, E12], [B5, B6, B9, B8], H⟩ ?_
 refine ydl ⟨[E1, E2, E3, E4, E11, E12], [B5, B6, B9, B10], H⟩ ?_
 exact yde
 refine w_ret ?_
 obtain ⟨e0, e1⟩ := some2_inv hF
 subst e0
 subst e1
 exact yp (.tup [.agg (m1_ref04_Cpu p0), .agg (m0_ref03_Mem p1)])
 refine yF h1 S38 ?_
 refine w_skip ?_
 refine ysg ⟨[E1, E2, E3, E4], [B13, B6, B7, B8], H⟩ ?_
 refine w_seq ?_
 obtain ⟨r2, r3, c4, hF⟩ := bind2_inv hF
 let E14 : EN := (6, vu r2)
 let E15 : EN := (7, vi r3)
 let E21 : EN := (28, vi r3)
 let E27 : EN := (32, vu r2)
 let S40 : St := ⟨[E1, E2, E3, E4, E15, E20, E21, E22], [B13, B6, B7, B8], H⟩
 let S41 : St := ⟨[E1, E2, E3, E4, E14, E27], [B13, B6, B7, B8], H⟩
 refine w_regO ⟨[E1, E2, E3, E4, E14, E15], [B13, B6, B7, B8], H⟩ ?_ ?_
 refine yr 3 S39 ?_
 refine o_one ⟨[E1, E2, E3, E4, E16, E17, E18, (22, .tup [vu r2, vi r3])], [B13, B6, B7, B8], H⟩ (yc (some 22) true false S39 (ok_ref03_Fetch H c4)) ?_
 refine yr 5 ⟨[E1, E2, E3, E4, E14, E15, (18, .tup [vu r2, vi r3]), E16, E17, E18, (22, .tup [vu r2, vi r3]), (23, vu r2), (24, vi r3)], [B13, B6, B7, B8], H⟩ ?_
 exact ye
 refine w_seq ?_
 refine ysg ⟨[E1, E2, E3, E4, E14, E15, (26, vb (r3 != 0))], [B13, B6, B7, B8], H⟩ ?_
 rcases if_inv hF with ⟨h5, hF⟩ | ⟨h5, hF⟩
 refine yT h5 ⟨[E1, E2, E3, E4, E15], [B13, B6, B7, B8], H⟩ ?_
 refine w_seq ?_
 obtain ⟨r6, c7, hF⟩ := bind1_inv hF
 let B19 : EB := (4, (m1_ref04_Cpu r6))
 let E23 : EN := (29, .agg (m1_ref04_Cpu r6))
 refine w_regD (.take 0 (.take 1 (.take 3 (.last 2 (.last 4 (.last 5 .done)))))) (by kernel_rfl) (⟨[E3, E4], [B19, B10], H⟩ : St) ?_ ?_
 refine ydk 3 S40 ?_
 refine d_last ⟨[E1, E2, E3, E4, E15, E20, E21, E23, E22], [B13, B6, B7, B8], H⟩ (yc (some 29) true false S40 (ok_ref04_fault H c7)) ?_
 refine ydl ⟨[E1, E2, E3, E4, E15, E20, E21, E23, E22], [B13, B6, B19, B8], H⟩ ?_
 refine ydl ⟨[E1, E2, E3, E4, E15, E20, E21, E23, E22], [B13, B6, B19, B10], H⟩ ?_
 exact yde
 refine w_ret ?_
 obtain ⟨e0, e1⟩ := some2_inv hF
 subst e0
 subst e1
 exact yp (.tup [.agg (m1_ref04_Cpu r6), .agg (m0_ref03_Mem p1)])
 refine yF h5 ⟨[E1, E2, E3, E4, E14], [B13, B6, B7, B8], H⟩ ?_
 refine w_skip ?_
 refine w_seq ?_
 obtain ⟨r8, r9, c10, hF⟩ := bind2_inv hF
 let E24 : EN := (7, vi r9)
 let B26 : EB := (8, (m0_ref02_Instr r8))
 let E28 : EN := (33, .tup [.agg (m0_ref02_Instr r8), vi r9])
 let E31 : EN := (39, vi r9)
 let E36 : EN := (44, .agg (m0_ref02_Instr r8))
 let S42 : St := ⟨[E1, E2, E3, E4, E24, E30, E31, E32], [B13, B6, B7, B8], H⟩
 let S43 : St := ⟨[E1, E2, E3, E4, E25, E34, E35, E36], [B13, B6, B7, B8, B26], H⟩
 refine w_regO ⟨[E1, E2, E3, E4, E24, E25], [B13, B6, B7, B8, B26], H⟩ ?_ ?_
 refine yr 1 S41 ?_
 refine o_one ⟨[E1, E2, E3, E4, E14, E27, E28], [B13, B6, B7, B8], H⟩ (yc (some 33) true false S41 (ok_ref02_Decode H c10)) ?_
 refine yr 6 ⟨[E1, E2, E3, E4, E14, E24, E25, (31, .tup [.agg (m0_ref02_Instr r8), vi r9]), E27, E28, (34, .agg (m0_ref02_Instr r8)), (35, vi r9)], [B13, B6, B7, B8, B26], H⟩ ?_
 exact ye
 refine w_seq ?_
 refine ysg ⟨[E1, E2, E3, E4, E24, E25, (37, vb (r9 != 0))], [B13, B6, B7, B8, B26], H⟩ ?_
 rcases if_inv hF with ⟨h11, hF⟩ | ⟨h11, hF⟩
 refine yT h11 ⟨[E1, E2, E3, E4, E24], [B13, B6, B7, B8], H⟩ ?_
 refine w_seq ?_
 obtain ⟨r12, c13, hF⟩ := bind1_inv hF
 let B29 : EB := (4, (m1_ref04_Cpu r12))
 let E33 : EN := (40, .agg (m1_ref04_Cpu r12))
 refine w_regD (.take 0 (.take 1 (.take 3 (.last 2 (.last 4 (.last 5 .done)))))) (by kernel_rfl) (⟨[E3, E4], [B29, B10], H⟩ : St) ?_ ?_
 refine ydk 3 S42 ?_
 refine d_last ⟨[E1, E2, E3, E4, E24, E30, E31, E33, E32], [B13, B6, B7, B8], H⟩ (yc (some 40) true false S42 (ok_ref04_fault H c13)) ?_
 refine ydl ⟨[E1, E2, E3, E4, E24, E30, E31, E33, E32], [B13, B6, B29, B8], H⟩ ?_
 refine ydl ⟨[E1, E2, E3, E4, E24, E30, E31, E33, E32], [B13, B6, B29, B10], H⟩ ?_
 exact yde
 refine w_ret ?_
 obtain ⟨e0, e1⟩ := some2_inv hF
 subst e0
 subst e1
 exact yp (.tup [.agg (m1_ref04_Cpu r12), .agg (m0_ref03_Mem p1)])
 refine yF h11 ⟨[E1, E2, E3, E4, E25], [B13, B6, B7, B8, B26], H⟩ ?_
 refine w_skip ?_
 refine w_seq ?_
 obtain ⟨r14, r15, c16, hF⟩ := bind2_inv hF
 let E37 : EN := (45, .tup [.agg (m1_ref04_Cpu r14), .agg (m0_ref03_Mem r15)])
 refine w_regO ⟨[E3, E4], [(4, (m1_ref04_Cpu r14)), (5, (m0_ref03_Mem r15))], H⟩ ?_ ?_
 refine yr 3 S43 ?_
 refine o_one ⟨[E1, E2, E3, E4, E25, E34, E35, E36, E37], [B13, B6, B7, B8, B26], H⟩ (yc (some 45) true false S43 (ok_ref04_do H c16)) ?_
 refine yr 4 ⟨[E1, E2, E3, E4, E25, E34, E35, E36, E37, (46, .agg (m1_ref04_Cpu r14)), (47, .agg (m0_ref03_Mem r15))], [B13, B6, (4, (m1_ref04_Cpu r14)), (5, (m0_ref03_Mem r15)), B26], H⟩ ?_
 exact ye
 refine w_ret ?_
 obtain ⟨e0, e1⟩ := some2_inv hF
 subst e0
 subst e1
 exact yp (.tup [.agg (m1_ref04_Cpu r14), .agg (m0_ref03_Mem r15)])
noncomputable def ref19_Run_L1 (p5 : Int) (a12 : Int) (a13 : T_ref03_Mem) (a14 : T_ref04_Cpu) : Option ((Int × T_ref03_Mem × T_ref04_Cpu) ⊕ ((T_ref03_Mem × T_ref04_Cpu))) :=
  if ((decide (a12 < p5)) && (a14.State_ == 0)) = true then (bind2 (ref04_Step a14 a13) fun r17 r18 =>
  some (Sum.inl ((IntKind.wrap .i64 (a12 + 1)), r18, r17)))
  else (some (Sum.inr (a13, a14)))
noncomputable def ref19_Run  (p0 : (List Int)) (p1 : (List Int)) (p2 : Int) (p3 : (List Int)) (p4 : (Arr 16 Int)) (p5 : Int) : Option (T_ref04_Cpu × T_ref03_Mem) :=
  bind1 (ref03_New (arrL [(IntKind.wrap .u32 (IntKind.wrap .i64 (4 * (p0.length : Int)))), (IntKind.wrap .u32 (IntKind.wrap .i64 (4 * (p0.length : Int)))), (IntKind.wrap .u32 ((IntKind.wrap .u32 (IntKind.wrap .i64 (4 * (p0.length : Int)))) + (IntKind.wrap .u32 (IntKind.wrap .i64 (4 * (p1.length : Int)))))), (IntKind.wrap .u32 ((IntKind.wrap .u32 ((IntKind.wrap .u32 (IntKind.wrap .i64 (4 * (p0.length : Int)))) + (IntKind.wrap .u32 (IntKind.wrap .i64 (4 * (p1.length : Int)))))) + (IntKind.wrap .u32 p2))), (IntKind.wrap .u32 ((IntKind.wrap .u32 ((IntKind.wrap .u32 ((IntKind.wrap .u32 (IntKind.wrap .i64 (4 * (p0.length : Int)))) + (IntKind.wrap .u32 (IntKind.wrap .i64 (4 * (p1.length : Int)))))) + (IntKind.wrap .u32 p2))) + (IntKind.wrap .u32 (IntKind.wrap .i64 (4 * (p3.length : Int))))))] : Arr 5 Int)) fun r1 =>
  bind2 (ref03_Fill r1 0 p0) fun r3 r4 =>
  bind2 (ref03_Fill r3 (IntKind.wrap .u32 (IntKind.wrap .i64 (4 * (p0.length : Int)))) p1) fun r6 r7 =>
  bind2 (ref03_Fill r6 (IntKind.wrap .u32 ((IntKind.wrap .u32 ((IntKind.wrap .u32 (IntKind.wrap .i64 (4 * (p0.length : Int)))) + (IntKind.wrap .u32 (IntKind.wrap .i64 (4 * (p1.length : Int)))))) + (IntKind.wrap .u32 p2))) p3) fun r9 r10 =>
  bind1 (loopO (fun (x : (Int × T_ref03_Mem × T_ref04_Cpu)) => ref19_Run_L1 p5 x.1 x.2.1 x.2.2) (0, r9, (T_ref04_Cpu.mk p4 4 0 0 0 0 0 0 ([] : List T_api_Event) 4 0 4 (IntKind.wrap .u32 ((IntKind.wrap .u32 ((IntKind.wrap .u32 (IntKind.wrap .i64 (4 * (p0.length : Int)))) + (IntKind.wrap .u32 (IntKind.wrap .i64 (4 * (p1.length : Int)))))) + (IntKind.wrap .u32 p2))) ([] : List Int)))) (tup2 fun b22 b23 =>
  some (b23, b22))
theorem ok_ref19_Run (H : Heap) {p0 : (List Int)} {p1 : (List Int)} {p2 : Int} {p3 : (List Int)} {p4 : (Arr 16 Int)} {p5 : Int} {ra : T_ref04_Cpu} {rb : T_ref03_Mem} (hF : ref19_Run p0 p1 p2 p3 p4 p5 = some (ra, rb)) : evS X 38 [.one .ro (.sl 1 (List.map (eI .u32) p0)), .one (.own 1) (.sl 1 (List.map (eI .u32) p1)), .one .top (.int .i64 p2), .one .bl (.sl 1 (List.map (eI .u32) p3)), .agg (arM .u32 16 p4), .one .top (.int .i64 p5)] H = some (.tup [.agg (m1_ref04_Cpu ra), .agg (m0_ref03_Mem rb)], H) := by
 let E1 : EN := (0, .one .ro (.sl 1 (List.map (eI .u32) p0)))
 let E2 : EN := (1, .one (.own 1) (.sl 1 (List.map (eI .u32) p1)))
 let E3 : EN := (2, vi p2)
 let E4 : EN := (3, .one .bl (.sl 1 (List.map (eI .u32) p3)))
 let E5 : EN := (5, vi p5)
 let E6 : EN := (10, vl 10 0)
 let E7 : EN := (12, vl 12 0)
 let E8 : EN := (13, vl 13 0)
 let B9 : EB := (10, (arM .u32 16 p4))
 let B10 : EB := (12, (List.replicate 19 (.top, .int .u32 0) ++ List.replicate 4 (.top, .int .i64 0) ++ [((.own 1), .sl 2 (List.map e_api_Event ([] : List T_api_Event)))] ++ List.replicate 4 (.top, .int .u32 0) ++ [((.own 1), .sl 1 (List.map (eI .i32) ([] : List Int)))]))
 let B11 : EB := (13, (List.replicate 5 (.top, .int .u32 0) ++ [((.own 1), .sl 1 (List.map (eI .u32) ([] : List Int)))]))
 let E12 : EN := (14, vu (IntKind.wrap .u32 (IntKind.wrap .i64 (4 * (p0.length : Int)))))
 let E13 : EN := (20, .one .ro (.sl 1 (List.map (eI .u32) p0)))
 let E14 : EN := (15, vu (IntKind.wrap .u32 ((IntKind.wrap .u32 (IntKind.wrap .i64 (4 * (p0.length : Int)))) + (IntKind.wrap .u32 (IntKind.wrap .i64 (4 * (p1.length : Int)))))))
 let E15 : EN := (24, vu (IntKind.wrap .u32 (IntKind.wrap .i64 (4 * (p0.length : Int)))))
 let E16 : EN := (25, .one .bl (.sl 1 (List.map (eI .u32) p1)))
 let E17 : EN := (16, vu (IntKind.wrap .u32 ((IntKind.wrap .u32 ((IntKind.wrap .u32 (IntKind.wrap .i64 (4 * (p0.length : Int)))) + (IntKind.wrap .u32 (IntKind.wrap .i64 (4 * (p1.length : Int)))))) + (IntKind.wrap .u32 p2))))
 let E18 : EN := (17, vl 17 0)
 let E20 : EN := (34, vu (IntKind.wrap .u32 (IntKind.wrap .i64 (4 * (p0.length : Int)))))
 let E21 : EN := (35, vu (IntKind.wrap .u32 (IntKind.wrap .i64 (4 * (p0.length : Int)))))
 let E22 : EN := (36, vu (IntKind.wrap .u32 ((IntKind.wrap .u32 (IntKind.wrap .i64 (4 * (p0.length : Int)))) + (IntKind.wrap .u32 (IntKind.wrap .i64 (4 * (p1.length : Int)))))))
 let E23 : EN := (37, vu (IntKind.wrap .u32 ((IntKind.wrap .u32 ((IntKind.wrap .u32 (IntKind.wrap .i64 (4 * (p0.length : Int)))) + (IntKind.wrap .u32 (IntKind.wrap .i64 (4 * (p1.length : Int)))))) + (IntKind.wrap .u32 p2))))
 let E24 : EN := (38, vu (IntKind.wrap .u32 ((IntKind.wrap .u32 ((IntKind.wrap .u32 (IntKind.wrap .i64 (4 * (p0.length : Int)))) + (IntKind.wrap .u32 (IntKind.wrap .i64 (4 * (p1.length : Int)))))) + (IntKind.wrap .u32 p2))))
 let E25 : EN := (39, .one .bl (.sl 1 (List.map (eI .u32) p3)))
 let E26 : EN := (40, vi (p3.length : Int))
 let E27 : EN := (41, vi (IntKind.wrap .i64 (4 * (p3.length : Int))))
 let E28 : EN := (42, vu (IntKind.wrap .u32 (IntKind.wrap .i64 (4 * (p3.length : Int)))))
 let E29 : EN := (43, vu (IntKind.wrap .u32 ((IntKind.wrap .u32 ((IntKind.wrap .u32 ((IntKind.wrap .u32 (IntKind.wrap .i64 (4 * (p0.length : Int)))) + (IntKind.wrap .u32 (IntKind.wrap .i64 (4 * (p1.length : Int)))))) + (IntKind.wrap .u32 p2))) + (IntKind.wrap .u32 (IntKind.wrap .i64 (4 * (p3.length : Int)))))))
 let E30 : EN := (44, .agg [(.top, .int .u32 (IntKind.wrap .u32 (IntKind.wrap .i64 (4 * (p0.length : Int))))), (.top, .int .u32 (IntKind.wrap .u32 (IntKind.wrap .i64 (4 * (p0.length : Int))))), (.top, .int .u32 (IntKind.wrap .u32 ((IntKind.wrap .u32 (IntKind.wrap .i64 (4 * (p0.length : Int)))) + (IntKind.wrap .u32 (IntKind.wrap .i64 (4 * (p1.length : Int))))))), (.top, .int .u32 (IntKind.wrap .u32 ((IntKind.wrap .u32 ((IntKind.wrap .u32 (IntKind.wrap .i64 (4 * (p0.length : Int)))) + (IntKind.wrap .u32 (IntKind.wrap .i64 (4 * (p1.length : Int)))))) + (IntKind.wrap .u32 p2)))), (.top, .int .u32 (IntKind.wrap .u32 ((IntKind.wrap .u32 ((IntKind.wrap .u32 ((IntKind.wrap .u32 (IntKind.wrap .i64 (4 * (p0.length : Int)))) + (IntKind.wrap .u32 (IntKind.wrap .i64 (4 * (p1.length : Int)))))) + (IntKind.wrap .u32 p2))) + (IntKind.wrap .u32 (IntKind.wrap .i64 (4 * (p3.length : Int)))))))])
 let E34 : EN := (48, .one .ro (.sl 1 (List.map (eI .u32) p0)))
 let E38 : EN := (54, vu (IntKind.wrap .u32 (IntKind.wrap .i64 (4 * (p0.length : Int)))))
 let E39 : EN := (55, .one .bl (.sl 1 (List.map (eI .u32) p1)))
 let E43 : EN := (61, vu (IntKind.wrap .u32 ((IntKind.wrap .u32 ((IntKind.wrap .u32 (IntKind.wrap .i64 (4 * (p0.length : Int)))) + (IntKind.wrap .u32 (IntKind.wrap .i64 (4 * (p1.length : Int)))))) + (IntKind.wrap .u32 p2))))
 let E44 : EN := (62, .one .bl (.sl 1 (List.map (eI .u32) p3)))
 let E46 : EN := (18, vl 18 0)
 let B47 : EB := (18, (arM .u32 16 p4 ++ [(.top, .int .u32 4), (.top, .int .u32 0), (.top, .int .u32 0)] ++ List.replicate 4 (.top, .int .i64 0) ++ [((.own 0), .sl 2 (List.map e_api_Event ([] : List T_api_Event))), (.top, .int .u32 4), (.top, .int .u32 0), (.top, .int .u32 4), (.top, .int .u32 (IntKind.wrap .u32 ((IntKind.wrap .u32 ((IntKind.wrap .u32 (IntKind.wrap .i64 (4 * (p0.length : Int)))) + (IntKind.wrap .u32 (IntKind.wrap .i64 (4 * (p1.length : Int)))))) + (IntKind.wrap .u32 p2)))), ((.own 0), .sl 1 (List.map (eI .i32) ([] : List Int)))]))
 let E52 : EN := (70, vi p5)
 let S63 : St := ⟨[E1, E2, E3, E4, E5, E6, E7, E8, E13], [B9, B10, B11], H⟩
 let S64 : St := ⟨[E1, E2, E3, E4, E5, E6, E7, E8, E12, E15, E16], [B9, B10, B11], H⟩
 let S65 : St := ⟨[E1, E2, E4, E5, E6, E7, E8, E12, E14, E17, E20, E21, E22, E23, E24, E25], [B9, B10, B11], H⟩
 let S66 : St := ⟨[E1, E2, E4, E5, E6, E7, E8, E12, E14, E17, E20, E21, E22, E23, E24, E25, E26, E27, E28, E29, E30], [B9, B10, B11], H⟩
 refine yf Try.func38 true ⟨[E1, E2, E3, E4, (4, .agg (arM .u32 16 p4)), E5], [], H⟩ ?_
 unfold ref19_Run at hF
 refine ysg ⟨[E1, E2, E3, E4, E5, E6, E7, E8], [B9, B10, B11], H⟩ ?_
 refine yso ⟨[E1, E2, E3, E4, E5, E6, E7, E8, E12], [B9, B10, B11], H⟩ ?_ ?_
 refine yr 1 S63 ?_
 refine o_one ⟨[E1, E2, E3, E4, E5, E6, E7, E8, E13, (21, vi (p0.length : Int))], [B9, B10, B11], H⟩ (yl S63 p0 (eI .u32) (some 21)) ?_
 refine yr 3 ⟨[E1, E2, E3, E4, E5, E6, E7, E8, E12, E13, (21, vi (p0.length : Int)), (22, vi (IntKind.wrap .i64 (4 * (p0.length : Int)))), (23, vu (IntKind.wrap .u32 (IntKind.wrap .i64 (4 * (p0.length : Int)))))], [B9, B10, B11], H⟩ ?_
 exact ye
 refine yso ⟨[E1, E2, E3, E4, E5, E6, E7, E8, E12, E14], [B9, B10, B11], H⟩ ?_ ?_
 refine yr 2 S64 ?_
 refine o_one ⟨[E1, E2, E3, E4, E5, E6, E7, E8, E12, E15, E16, (26, vi (p1.length : Int))], [B9, B10, B11], H⟩ (yl S64 p1 (eI .u32) (some 26)) ?_
 refine yr 4 ⟨[E1, E2, E3, E4, E5, E6, E7, E8, E12, E14, E15, E16, (26, vi (p1.length : Int)), (27, vi (IntKind.wrap .i64 (4 * (p1.length : Int)))), (28, vu (IntKind.wrap .u32 (IntKind.wrap .i64 (4 * (p1.length : Int))))), (29, vu (IntKind.wrap .u32 ((IntKind.wrap .u32 (IntKind.wrap .i64 (4 * (p0.length : Int)))) + (IntKind.wrap .u32 (IntKind.wrap .i64 (4 * (p1.length : Int)))))))], [B9, B10, B11], H⟩ ?_
 exact ye
 refine ysg ⟨[E1, E2, E4, E5, E6, E7, E8, E12, E14, E17], [B9, B10, B11], H⟩ ?_
 refine w_seq ?_
 obtain ⟨r1, c2, hF⟩ := bind1_inv hF
 let B19 : EB := (17, (m0_ref03_Mem r1))
 let E31 : EN := (45, .agg (m0_ref03_Mem r1))
 let E33 : EN := (47, .agg (m0_ref03_Mem r1))
 let S67 : St := ⟨[E1, E2, E4, E5, E6, E7, E8, E12, E17, E18, E33, E34], [B9, B10, B11, B19], H⟩
 refine w_regO ⟨[E1, E2, E4, E5, E6, E7, E8, E12, E17, E18], [B9, B10, B11, B19], H⟩ ?_ ?_
 refine yr 6 S65 ?_
 refine o_one ⟨[E1, E2, E4, E5, E6, E7, E8, E12, E14, E17, E20, E21, E22, E23, E24, E25, E26], [B9, B10, B11], H⟩ (yl S65 p3 (eI .u32) (some 40)) ?_
 refine yr 4 S66 ?_
 refine o_one ⟨[E1, E2, E4, E5, E6, E7, E8, E12, E14, E17, E20, E21, E22, E23, E24, E25, E26, E27, E28, E29, E30, E31], [B9, B10, B11], H⟩ (yc (some 45) true false S66 (ok_ref03_New H c2)) ?_
 refine yr 2 ⟨[E1, E2, E4, E5, E6, E7, E8, E12, E14, E17, E18, E20, E21, E22, E23, E24, E25, E26, E27, E28, E29, E30, E31], [B9, B10, B11, B19], H⟩ ?_
 exact ye
 refine w_seq ?_
 obtain ⟨r3, r4, c5, hF⟩ := bind2_inv hF
 let B32 : EB := (17, (m0_ref03_Mem r3))
 let E35 : EN := (49, .tup [.agg (m0_ref03_Mem r3), vi r4])
 let E37 : EN := (53, .agg (m0_ref03_Mem r3))
 let S68 : St := ⟨[E2, E4, E5, E6, E7, E8, E12, E17, E18, E37, E38, E39], [B9, B10, B11, B32], H⟩
 refine w_regO ⟨[E2, E4, E5, E6, E7, E8, E12, E17, E18], [B9, B10, B11, B32], H⟩ ?_ ?_
 refine yr 2 S67 ?_
 refine o_one ⟨[E1, E2, E4, E5, E6, E7, E8, E12, E17, E18, E33, E34, E35], [B9, B10, B11, B19], H⟩ (yc (some 49) true false S67 (ok_ref03_Fill H c5)) ?_
 refine yr 4 ⟨[E1, E2, E4, E5, E6, E7, E8, E12, E17, E18, (46, .tup [.agg (m0_ref03_Mem r3), vi r4]), E33, E34, E35, (50, .agg (m0_ref03_Mem r3)), (51, vi r4)], [B9, B10, B11, B32], H⟩ ?_
 exact ye
 refine w_seq ?_
 obtain ⟨r6, r7, c8, hF⟩ := bind2_inv hF
 let B36 : EB := (17, (m0_ref03_Mem r6))
 let E40 : EN := (56, .tup [.agg (m0_ref03_Mem r6), vi r7])
 let E42 : EN := (60, .agg (m0_ref03_Mem r6))
 let S69 : St := ⟨[E4, E5, E6, E7, E8, E17, E18, E42, E43, E44], [B9, B10, B11, B36], H⟩
 refine w_regO ⟨[E4, E5, E6, E7, E8, E17, E18], [B9, B10, B11, B36], H⟩ ?_ ?_
 refine yr 3 S68 ?_
 refine o_one ⟨[E2, E4, E5, E6, E7, E8, E12, E17, E18, E37, E38, E39, E40], [B9, B10, B11, B32], H⟩ (yc (some 56) true false S68 (ok_ref03_Fill H c8)) ?_
 refine yr 4 ⟨[E2, E4, E5, E6, E7, E8, E12, E17, E18, (52, .tup [.agg (m0_ref03_Mem r6), vi r7]), E37, E38, E39, E40, (57, .agg (m0_ref03_Mem r6)), (58, vi r7)], [B9, B10, B11, B36], H⟩ ?_
 exact ye
 refine w_seq ?_
 obtain ⟨r9, r10, c11, hF⟩ := bind2_inv hF
 let B41 : EB := (17, (m0_ref03_Mem r9))
 let E45 : EN := (63, .tup [.agg (m0_ref03_Mem r9), vi r10])
 refine w_regO ⟨[E5, E6, E7, E8, E17, E18], [B9, B10, B11, B41], H⟩ ?_ ?_
 refine yr 3 S69 ?_
 refine o_one ⟨[E4, E5, E6, E7, E8, E17, E18, E42, E43, E44, E45], [B9, B10, B11, B36], H⟩ (yc (some 63) true false S69 (ok_ref03_Fill H c11)) ?_
 refine yr 4 ⟨[E4, E5, E6, E7, E8, E17, E18, (59, .tup [.agg (m0_ref03_Mem r9), vi r10]), E42, E43, E44, E45, (64, .agg (m0_ref03_Mem r9)), (65, vi r10)], [B9, B10, B11, B41], H⟩ ?_
 exact ye
 refine ysg ⟨[E5, E7, E8, E18, E46], [B10, B11, B41, B47], H⟩ ?_
 refine w_seq ?_
 refine ysg ⟨[E5, E7, E8, E18, E46, (19, vi 0)], [B10, B11, B41, B47], H⟩ ?_
 refine w_block ?_
 obtain ⟨r20, hL21, hF⟩ := bind1_inv hF
 refine w_loop (fun (x : (Int × T_ref03_Mem × T_ref04_Cpu)) => (⟨[E5, E7, E8, E18, E46, (19, vi x.1)], [B10, B11, (17, (m0_ref03_Mem x.2.1)), (18, (m1_ref04_Cpu x.2.2))], H⟩ : St)) (fun (y : (T_ref03_Mem × T_ref04_Cpu)) => ((.exit 0, (⟨[E7, E8, E18, E46], [B10, B11, (17, (m0_ref03_Mem y.1)), (18, (m1_ref04_Cpu y.2))], H⟩ : St)) : Ex × St)) hL21 (by kernel_rfl) ?_ ?_
 rintro ⟨a12, a13, a14⟩ o hF
 replace hF : ref19_Run_L1 p5 a12 a13 a14 = some o := hF
 let E48 : EN := (19, vi a12)
 let B49 : EB := (17, (m0_ref03_Mem a13))
 let B50 : EB := (18, (m1_ref04_Cpu a14))
 let E51 : EN := (69, vi a12)
 let E55 : EN := (80, .agg (m1_ref04_Cpu a14))
 let E56 : EN := (81, .agg (m0_ref03_Mem a13))
 let S70 : St := ⟨[E5, E7, E8, E18, E46, E48, E55, E56], [B10, B11, B49, B50], H⟩
 unfold ref19_Run_L1 at hF
 refine w_seq ?_
 refine yso ⟨[E5, E7, E8, E18, E46, E48, (76, vb ((decide (a12 < p5)) && (a14.State_ == 0)))], [B10, B11, B49, B50], H⟩ ?_ ?_
 refine yr 4 ⟨[E5, E7, E8, E18, E46, E48, E51, E52, (71, vb (decide (a12 < p5))), (72, vb (decide (a12 < p5)))], [B10, B11, B49, B50], H⟩ ?_
 rcases bool_cases (decide (a12 < p5)) with h15 | h15
 refine o_eq (congrArg (fun q => (⟨[E5, E7, E8, E18, E46, E48, E51, E52, (71, vb q), (72, vb q)], [B10, B11, B49, B50], H⟩ : St)) h15) ?_
 refine yr 4 ⟨[E5, E7, E8, E18, E46, E48, E51, E52, (71, vT), (72, vT), (73, vl 18 19), (74, vi a14.State_), (75, vb (a14.State_ == 0)), (76, vb (a14.State_ == 0))], [B10, B11, B49, B50], H⟩ ?_
 refine o_eq2 (congrArg (fun q0 => (⟨[E5, E7, E8, E18, E46, E48, (76, vb q0)], [B10, B11, B49, B50], H⟩ : St)) (show (a14.State_ == 0) = ((decide (a12 < p5)) && (a14.State_ == 0)) by simp [h15])) ?_
 exact ye
 refine o_eq (congrArg (fun q => (⟨[E5, E7, E8, E18, E46, E48, E51, E52, (71, vb q), (72, vb q)], [B10, B11, B49, B50], H⟩ : St)) h15) ?_
 refine yr 4 ⟨[E5, E7, E8, E18, E46, E48, E51, E52, (71, vF), (72, vF), (73, vN), (74, vN), (75, vN), (76, vF)], [B10, B11, B49, B50], H⟩ ?_
 refine o_eq2 (congrArg (fun q0 => (⟨[E5, E7, E8, E18, E46, E48, (76, vb q0)], [B10, B11, B49, B50], H⟩ : St)) (show false = ((decide (a12 < p5)) && (a14.State_ == 0)) by simp [h15])) ?_
 exact ye
 rcases if_inv hF with ⟨h16, hF⟩ | ⟨h16, hF⟩
 refine yT h16 ⟨[E5, E7, E8, E18, E46, E48], [B10, B11, B49, B50], H⟩ ?_
 refine w_skip ?_
 refine w_seq ?_
 refine w_block ?_
 obtain ⟨r17, r18, c19, hF⟩ := bind2_inv hF
 let B53 : EB := (17, (m0_ref03_Mem r18))
 let B54 : EB := (18, (m1_ref04_Cpu r17))
 let E57 : EN := (82, .tup [.agg (m1_ref04_Cpu r17), .agg (m0_ref03_Mem r18)])
 refine w_regO ⟨[E5, E7, E8, E18, E46, E48], [B10, B11, B53, B54], H⟩ ?_ ?_
 refine yr 2 S70 ?_
 refine o_one ⟨[E5, E7, E8, E18, E46, E48, E55, E56, E57], [B10, B11, B49, B50], H⟩ (yc (some 82) true false S70 (ok_ref04_Step H c19)) ?_
 refine yr 5 ⟨[E5, E7, E8, E18, E46, E48, (79, .tup [.agg (m1_ref04_Cpu r17), .agg (m0_ref03_Mem r18)]), E55, E56, E57, (83, .agg (m1_ref04_Cpu r17)), (84, .agg (m0_ref03_Mem r18))], [B10, B11, B53, B54], H⟩ ?_
 exact ye
 refine yg ⟨[E5, E7, E8, E18, E46, (19, vi (IntKind.wrap .i64 (a12 + 1)))], [B10, B11, B53, B54], H⟩ ?_
 cases hF
 exact ⟨_, rfl, (by kernel_rfl)⟩
 refine yF h16 ⟨[E7, E8, E18, E46], [B10, B11, B49, B50], H⟩ ?_
 refine w_exit ?_
 cases hF
 exact ⟨_, rfl, (by kernel_rfl)⟩
 obtain ⟨b22, b23⟩ := r20
 replace hF := tup2_inv hF
 let B58 : EB := (17, (m0_ref03_Mem b22))
 let B59 : EB := (18, (m1_ref04_Cpu b23))
 let B60 : EB := (12, (m1_ref04_Cpu b23))
 let E61 : EN := (85, .agg (m1_ref04_Cpu b23))
 let E62 : EN := (86, .agg (m0_ref03_Mem b22))
 refine w_oe (i := 0) (s := (⟨[E7, E8, E18, E46], [B10, B11, B58, B59], H⟩ : St)) (by kernel_rfl) ?_
 refine e_here ?_
 refine w_seq ?_
 refine w_regD (.take 0 (.take 1 (.last 2 (.last 3 .done)))) (by kernel_rfl) (⟨[E7, E8], [B60, (13, (m0_ref03_Mem b22))], H⟩ : St) ?_ ?_
 refine ydk 2 ⟨[E7, E8, E18, E46, E61, E62], [B10, B11, B58, B59], H⟩ ?_
 refine ydl ⟨[E7, E8, E18, E46, E61, E62], [B60, B11, B58, B59], H⟩ ?_
 refine ydl ⟨[E7, E8, E18, E46, E61, E62], [B60, (13, (m0_ref03_Mem b22)), B58, B59], H⟩ ?_
 exact yde
 refine w_ret ?_
 obtain ⟨e0, e1⟩ := some2_inv hF
 subst e0
 subst e1
 exact yp (.tup [.agg (m1_ref04_Cpu b23), .agg (m0_ref03_Mem b22)])
noncomputable def law19_run  (p0 : Ptr) (p1 : (List Int)) : Option (T_ref04_Cpu) :=
  bind1 (mks 4 64 64 0) fun v1 =>
  bind2 (ref19_Run p1 ([] : List Int) 0 v1 (arrL [0, 0, 0, 0, 0, 0, 0, 0, 0, 0, 0, 0, 0, (IntKind.wrap .u32 ((IntKind.wrap .u32 (IntKind.wrap .i64 ((IntKind.wrap .i64 (4 * (p1.length : Int))) + 256))) - 64)), 0, (IntKind.wrap .u32 (IntKind.wrap .i64 ((IntKind.wrap .i64 (4 * (p1.length : Int))) + 256)))] : Arr 16 Int) 5000) fun r3 r4 =>
  some r3
theorem ok_law19_run (H : Heap) {p0 : Ptr} {p1 : (List Int)} {ra : T_ref04_Cpu} (hF : law19_run p0 p1 = some ra) : evS X 24 [.one .top (Ptr.av p0), .one .ro (.sl 1 (List.map (eI .u32) p1))] H = some (.agg (m1_ref04_Cpu ra), H) := by
 let E1 : EN := (1, .one .ro (.sl 1 (List.map (eI .u32) p1)))
 let E2 : EN := (4, vl 4 0)
 let B3 : EB := (4, (List.replicate 19 (.top, .int .u32 0) ++ List.replicate 4 (.top, .int .i64 0) ++ [((.own 1), .sl 2 (List.map e_api_Event ([] : List T_api_Event)))] ++ List.replicate 4 (.top, .int .u32 0) ++ [((.own 1), .sl 1 (List.map (eI .i32) ([] : List Int)))]))
 let E4 : EN := (5, vl 5 0)
 let B5 : EB := (5, (List.replicate 16 (.top, .int .u32 0)))
 let B7 : EB := (5, (List.replicate 15 (.top, .int .u32 0) ++ [(.top, .int .u32 (IntKind.wrap .u32 (IntKind.wrap .i64 ((IntKind.wrap .i64 (4 * (p1.length : Int))) + 256))))]))
 let E8 : EN := (10, .one .ro (.sl 1 (List.map (eI .u32) p1)))
 let B9 : EB := (5, (List.replicate 13 (.top, .int .u32 0) ++ [(.top, .int .u32 (IntKind.wrap .u32 ((IntKind.wrap .u32 (IntKind.wrap .i64 ((IntKind.wrap .i64 (4 * (p1.length : Int))) + 256))) - 64))), (.top, .int .u32 0), (.top, .int .u32 (IntKind.wrap .u32 (IntKind.wrap .i64 ((IntKind.wrap .i64 (4 * (p1.length : Int))) + 256))))]))
 let E10 : EN := (21, .one .ro (.sl 1 (List.map (eI .u32) p1)))
 let E12 : EN := (23, .agg (List.replicate 13 (.top, .int .u32 0) ++ [(.top, .int .u32 (IntKind.wrap .u32 ((IntKind.wrap .u32 (IntKind.wrap .i64 ((IntKind.wrap .i64 (4 * (p1.length : Int))) + 256))) - 64))), (.top, .int .u32 0), (.top, .int .u32 (IntKind.wrap .u32 (IntKind.wrap .i64 ((IntKind.wrap .i64 (4 * (p1.length : Int))) + 256))))]))
 let S14 : St := ⟨[E1, E2, E4], [B3, B5], H⟩
 refine yf Try.func24 true ⟨[(0, vp p0), E1], [], H⟩ ?_
 unfold law19_run at hF
 refine ysg ⟨[E1, E2], [B3], H⟩ ?_ (h := (by generalize p0 = qp0; cases qp0 <;> kernel_rfl))
 refine ysg S14 ?_
 refine w_seq ?_
 obtain ⟨v1, h2, hF⟩ := bind1_inv hF
 let E6 : EN := (6, .one (.own 1) (.sl 1 (List.map (eI .u32) v1)))
 let E11 : EN := (22, .one .bl (.sl 1 (List.map (eI .u32) v1)))
 let S15 : St := ⟨[E1, E2, E4, E6, E8], [B3, B5], H⟩
 let S16 : St := ⟨[E1, E2, E4, E6, E10, E11, E12], [B3, B9], H⟩
 refine w_regO ⟨[E1, E2, E4, E6], [B3, B5], H⟩ ?_ ?_
 refine o_one ⟨[E1, E2, E4, (9, .one (.own 1) (.sl 1 (List.map (eI .u32) v1)))], [B3, B5], H⟩ (st_mk (X := X) S14 4 h2 42 35 1 [(.top, .int .u32 0)] (eI .u32) 0 (.i64) (.i64) (some 9) (by kernel_rfl) (by kernel_rfl) (by kernel_rfl) (by kernel_rfl) (by kernel_rfl) (by kernel_rfl) (by kernel_rfl) (by kernel_rfl) (by kernel_rfl) (by kernel_rfl)) ?_
 refine yr 1 ⟨[E1, E2, E4, E6, (9, .one .top .junk)], [B3, B5], H⟩ ?_
 exact ye
 refine yso ⟨[E1, E2, E4, E6], [B3, B7], H⟩ ?_ ?_
 refine yr 1 S15 ?_
 refine o_one ⟨[E1, E2, E4, E6, E8, (11, vi (p1.length : Int))], [B3, B5], H⟩ (yl S15 p1 (eI .u32) (some 11)) ?_
 refine yr 5 ⟨[E1, E2, E4, E6, E8, (11, vi (p1.length : Int)), (12, vi (IntKind.wrap .i64 (4 * (p1.length : Int)))), (13, vi (IntKind.wrap .i64 ((IntKind.wrap .i64 (4 * (p1.length : Int))) + 256))), (14, vu (IntKind.wrap .u32 (IntKind.wrap .i64 ((IntKind.wrap .i64 (4 * (p1.length : Int))) + 256)))), (15, vl 5 15)], [B3, B7], H⟩ ?_
 exact ye
 refine ysg ⟨[E1, E2, E4, E6], [B3, B9], H⟩ ?_
 refine w_seq ?_
 obtain ⟨r3, r4, c5, hF⟩ := bind2_inv hF
 let E13 : EN := (24, .tup [.agg (m1_ref04_Cpu r3), .agg (m0_ref03_Mem r4)])
 refine w_regO ⟨[E2, (7, vl 7 0)], [B3, (7, (m1_ref04_Cpu r3))], H⟩ ?_ ?_
 refine yr 3 S16 ?_
 refine o_one ⟨[E1, E2, E4, E6, E10, (22, .one .top .junk), E12, E13], [B3, B9], H⟩ (yc (some 24) true true S16 (ok_ref19_Run H c5)) ?_
 refine yr 7 ⟨[E1, E2, E4, E6, (7, vl 7 0), (8, vl 8 0), (20, .tup [.agg (m1_ref04_Cpu r3), .agg (m0_ref03_Mem r4)]), E10, (22, .one .top .junk), E12, E13, (25, .agg (m1_ref04_Cpu r3)), (26, .agg (m0_ref03_Mem r4))], [B3, B9, (7, (m1_ref04_Cpu r3)), (8, (m0_ref03_Mem r4))], H⟩ ?_
 exact ye
 refine ysg ⟨[E2], [(4, (m1_ref04_Cpu r3))], H⟩ ?_
 refine w_ret ?_
 obtain e0 := some1_inv hF
 subst e0
 exact yp (.agg (m1_ref04_Cpu r3))
noncomputable def law19_awake (H : Heap) : Option (Heap × Bool) :=
  bind2 (law19_begun H) fun H3 r1 =>
  if r1.isNil = true then (some (H3, false))
  else ((r1).bnd fun i5 o6 =>
  bind1 (get_item_Gen H3 i5 o6) fun x8 =>
  bind1 (emit_Code_Number H3 x8.Code_ 0 7) fun H11 =>
  bind1 (item_Gen_Wait H11 (Ptr.at i5 o6)) fun H13 =>
  bind1 (get_item_Gen H13 i5 o6) fun x14 =>
  bind1 (emit_Code_Number H13 x14.Code_ 0 (-2)) fun H17 =>
  bind2 (item_Gen_Two H17 (Ptr.at i5 o6) (ByteArray.mk #[68, 73, 86])) fun H20 r18 =>
  bind3 (law19_ended H20 (Ptr.at i5 o6) 0) fun H24 r21 r22 =>
  if ((!r22) || (r18 != 0)) = true then (some (H24, false))
  else (bind1 (law19_run (Ptr.at i5 o6) r21) fun r27 =>
  some (H24, ((r27.State_ == 1) && (((IntKind.wrap .i32 (r27.R_.g 0)) == (-4)) || false)))))
theorem ok_law19_awake (H : Heap) {ra : Bool} {Hr : Heap} (hF : law19_awake H = some (Hr, ra)) : evS X 14 [] H = some (.one .top (.bool ra), Hr) := by
 let E16 : EN := (5, vl 5 0)
 let E21 : EN := (37, vl 5 19)
 let E23 : EN := (41, vl 5 0)
 let E24 : EN := (42, vl 5 0)
 let S27 : St := ⟨[], [], H⟩
 refine yf Try.func14 false S27 ?_
 unfold law19_awake at hF
 refine ysg S27 ?_
 refine w_seq ?_
 obtain ⟨H3, r1, c2, hF⟩ := bind2_inv hF
 let E1 : Ptr → EN := fun z0 => (1, vp z0)
 let S28 : Ptr → St := fun z0 => ⟨[(E1 z0), (7, vp z0)], [], H3⟩
 refine w_regO ⟨[(E1 r1)], [], H3⟩ ?_ ?_
 refine o_one ⟨[(6, vp r1)], [], H3⟩ (yc (some 6) false false S27 (ok_law19_begun H c2) (hr := (by generalize r1 = qp0; cases qp0 <;> kernel_rfl)) (hs := (by generalize r1 = qp0; cases qp0 <;> kernel_rfl))) ?_
 refine yr 1 ⟨[(E1 r1), (6, vp r1)], [], H3⟩ ?_ (h := (by generalize r1 = qp0; cases qp0 <;> kernel_rfl))
 exact ye
 refine w_seq ?_
 refine yso ⟨[(E1 r1), (8, vb r1.isNil)], [], H3⟩ ?_ ?_
 refine yr 1 (S28 r1) ?_ (h := (by generalize r1 = qp0; cases qp0 <;> kernel_rfl))
 refine o_one ⟨[(E1 r1), (7, vp r1), (8, vb r1.isNil)], [], H3⟩ (st_bin (S28 r1) (nil_eql (P := X.P) (ty := 23) (x := (.tmp 7)) (y := (.const (.pointer none))) (m := .top) (m' := .top) r1 (by generalize r1 = qp0; cases qp0 <;> kernel_rfl) (by generalize r1 = qp0; cases qp0 <;> kernel_rfl)) rfl (some 8) (by generalize r1 = qp0; cases qp0 <;> kernel_rfl) (by generalize r1 = qp0; cases qp0 <;> kernel_rfl)) ?_
 exact ye
 rcases if_inv hF with ⟨h4, hF⟩ | ⟨h4, hF⟩
 refine yT h4 ⟨[], [], H3⟩ ?_
 refine ysg ⟨[(0, vF)], [], H3⟩ ?_
 refine w_ret ?_
 obtain ⟨e0, e1⟩ := some2_inv hF
 subst e0
 subst e1
 exact yi (vF)
 refine yF h4 ⟨[(E1 r1)], [], H3⟩ ?_
 refine w_skip ?_
 refine w_seq ?_
 obtain ⟨i5, o6, h7, hF⟩ := pbnd_inv hF
 let E2 : EN := (1, vo i5 o6)
 let E3 : EN := (9, vo i5 o6)
 let E4 : EN := (10, vo i5 o6)
 let E5 : EN := (11, vo i5 o6)
 let E6 : EN := (16, vo i5 o6)
 let E7 : EN := (17, vo i5 o6)
 let E8 : EN := (18, vo i5 o6)
 let E10 : EN := (21, vo i5 o6)
 let E13 : EN := (24, vo i5 o6)
 let E18 : EN := (34, vo i5 o6)
 let S29 : St := ⟨[E2, E3, E4, E5], [], H3⟩
 obtain ⟨⟨x8a, x8b, ⟨x8c, x8d, x8e, x8f⟩⟩, V9, hF⟩ := bind1_inv hF
 replace V9 := hgetT_inv V9
 let S30 : Ptr → St := fun z0 => ⟨[E2, E3, E4, E5, (12, vp z0)], [], H3⟩
 obtain ⟨H11, c10, hF⟩ := bind1_inv hF
 let S31 : St := ⟨[E2, (14, vo i5 o6)], [], H11⟩
 refine w_regO ⟨[E2], [], H11⟩ ?_ ?_
 refine yr 1 ⟨[(E1 r1), (9, vp r1)], [], H3⟩ ?_ (h := (by generalize r1 = qp0; cases qp0 <;> kernel_rfl))
 refine o_eq (congrArg (fun q => (⟨[(1, vp q), (9, vp q)], [], H3⟩ : St)) h7) ?_
 refine yr 1 ⟨[E2, E3, E4], [], H3⟩ ?_
 refine yr 1 S29 ?_
 refine o_one (S30 x8a) (yd (X := X) S29 26 V9 0 1 false (vp x8a) (some 12) (hs := (by generalize x8a = qp0; cases qp0 <;> kernel_rfl))) ?_
 refine o_one ⟨[E2, E3, E4, E5, (12, vp x8a), (13, vN)], [], H11⟩ (yc (some 13) false false (S30 x8a) (ok_emit_Code_Number H3 c10) (hr := (by generalize x8a = qp0; cases qp0 <;> kernel_rfl)) (hs := (by generalize x8a = qp0; cases qp0 <;> kernel_rfl))) ?_
 exact ye
 refine w_seq ?_
 obtain ⟨H13, c12, hF⟩ := bind1_inv hF
 let S32 : St := ⟨[E2, E6, E7, E8], [], H13⟩
 refine w_regO ⟨[E2], [], H13⟩ ?_ ?_
 refine yr 1 S31 ?_
 refine o_one ⟨[E2, (14, vo i5 o6), (15, vN)], [], H13⟩ (yc (some 15) false false S31 (ok_item_Gen_Wait H11 c12)) ?_
 exact ye
 refine w_seq ?_
 obtain ⟨⟨x14a, x14b, ⟨x14c, x14d, x14e, x14f⟩⟩, V15, hF⟩ := bind1_inv hF
 replace V15 := hgetT_inv V15
 let S33 : Ptr → St := fun z0 => ⟨[E2, E6, E7, E8, (19, vp z0)], [], H13⟩
 obtain ⟨H17, c16, hF⟩ := bind1_inv hF
 refine w_regO ⟨[E2], [], H17⟩ ?_ ?_
 refine yr 2 ⟨[E2, E6, E7], [], H13⟩ ?_
 refine yr 1 S32 ?_
 refine o_one (S33 x14a) (yd (X := X) S32 26 V15 0 1 false (vp x14a) (some 19) (hs := (by generalize x14a = qp0; cases qp0 <;> kernel_rfl))) ?_
 refine o_one ⟨[E2, E6, E7, E8, (19, vp x14a), (20, vN)], [], H17⟩ (yc (some 20) false false (S33 x14a) (ok_emit_Code_Number H13 c16) (hr := (by generalize x14a = qp0; cases qp0 <;> kernel_rfl)) (hs := (by generalize x14a = qp0; cases qp0 <;> kernel_rfl))) ?_
 exact ye
 refine w_seq ?_
 obtain ⟨H20, r18, c19, hF⟩ := bind2_inv hF
 let E9 : EN := (2, vi r18)
 let S34 : St := ⟨[E2, E9, E13], [], H20⟩
 refine w_regO ⟨[E2, E9], [], H20⟩ ?_ ?_
 refine yr 1 ⟨[E2, E10], [], H17⟩ ?_
 refine o_one ⟨[E2, E10, (22, vi r18)], [], H20⟩ (yc (some 22) false false (⟨[E2, E10], [], H17⟩ : St) (ok_item_Gen_Two H17 c19)) ?_
 refine yr 1 ⟨[E2, E9, E10, (22, vi r18)], [], H20⟩ ?_
 exact ye
 refine w_seq ?_
 obtain ⟨H24, r21, r22, c23, hF⟩ := bind3_inv hF
 let E11 : EN := (3, .one .bl (.sl 1 (List.map (eI .u32) r21)))
 let E12 : EN := (4, vb r22)
 let E14 : EN := (25, .tup [.one (.own 1) (.sl 1 (List.map (eI .u32) r21)), vb r22])
 let E15 : EN := (28, vb r22)
 let E19 : EN := (35, .one .bl (.sl 1 (List.map (eI .u32) r21)))
 let S35 : St := ⟨[E2, E11, E18, E19], [], H24⟩
 refine w_regO ⟨[E2, E9, E11, E12], [], H24⟩ ?_ ?_
 refine yr 1 S34 ?_
 refine o_one ⟨[E2, E9, E13, E14], [], H24⟩ (yc (some 25) false false S34 (ok_law19_ended H20 c23)) ?_
 refine yr 5 ⟨[E2, E9, E11, E12, (23, .tup [.one .bl (.sl 1 (List.map (eI .u32) r21)), vb r22]), E13, E14, (26, .one .bl (.sl 1 (List.map (eI .u32) r21))), (27, vb r22)], [], H24⟩ ?_
 exact ye
 refine w_seq ?_
 refine yso ⟨[E2, E11, (33, vb ((!r22) || (r18 != 0)))], [], H24⟩ ?_ ?_
 refine yr 3 ⟨[E2, E9, E11, E12, E15, (29, vb (!r22)), (30, vb (!r22))], [], H24⟩ ?_
 rcases bool_cases (!r22) with h25 | h25
 refine o_eq (congrArg (fun q => (⟨[E2, E9, E11, E12, E15, (29, vb q), (30, vb q)], [], H24⟩ : St)) h25) ?_
 refine yr 3 ⟨[E2, E9, E11, E12, E15, (29, vT), (30, vT), (31, vN), (32, vN), (33, vT)], [], H24⟩ ?_
 refine o_eq2 (congrArg (fun q0 => (⟨[E2, E11, (33, vb q0)], [], H24⟩ : St)) (show true = ((!r22) || (r18 != 0)) by simp [h25])) ?_
 exact ye
 refine o_eq (congrArg (fun q => (⟨[E2, E9, E11, E12, E15, (29, vb q), (30, vb q)], [], H24⟩ : St)) h25) ?_
 refine yr 3 ⟨[E2, E9, E11, E12, E15, (29, vF), (30, vF), (31, vi r18), (32, vb (r18 != 0)), (33, vb (r18 != 0))], [], H24⟩ ?_
 refine o_eq2 (congrArg (fun q0 => (⟨[E2, E11, (33, vb q0)], [], H24⟩ : St)) (show (r18 != 0) = ((!r22) || (r18 != 0)) by simp [h25])) ?_
 exact ye
 rcases if_inv hF with ⟨h26, hF⟩ | ⟨h26, hF⟩
 refine yT h26 ⟨[], [], H24⟩ ?_
 refine ysg ⟨[(0, vF)], [], H24⟩ ?_
 refine w_ret ?_
 obtain ⟨e0, e1⟩ := some2_inv hF
 subst e0
 subst e1
 exact yi (vF)
 refine yF h26 ⟨[E2, E11], [], H24⟩ ?_
 refine w_skip ?_
 refine w_seq ?_
 obtain ⟨r27, c28, hF⟩ := bind1_inv hF
 let B17 : EB := (5, (m1_ref04_Cpu r27))
 let E20 : EN := (36, .agg (m1_ref04_Cpu r27))
 let E22 : EN := (38, vi r27.State_)
 let E25 : EN := (43, vu (r27.R_.g 0))
 let E26 : EN := (44, .one .top (.int .i32 (IntKind.wrap .i32 (r27.R_.g 0))))
 refine w_regO ⟨[E16], [B17], H24⟩ ?_ ?_
 refine yr 2 S35 ?_
 refine o_one ⟨[E2, E11, E18, E19, E20], [], H24⟩ (yc (some 36) true false S35 (ok_law19_run H24 c28)) ?_
 refine yr 2 ⟨[E2, E11, E16, E18, E19, E20], [B17], H24⟩ ?_
 exact ye
 refine yso ⟨[(0, vb ((r27.State_ == 1) && (((IntKind.wrap .i32 (r27.R_.g 0)) == (-4)) || false)))], [], H24⟩ ?_ ?_
 refine yr 4 ⟨[E16, E21, E22, (39, vb (r27.State_ == 1)), (40, vb (r27.State_ == 1))], [B17], H24⟩ ?_
 rcases bool_cases (r27.State_ == 1) with h29 | h29
 refine o_eq (congrArg (fun q => (⟨[E16, E21, E22, (39, vb q), (40, vb q)], [B17], H24⟩ : St)) h29) ?_
 refine yr 7 ⟨[E16, E21, E22, (39, vT), (40, vT), E23, E24, E25, E26, (45, vb ((IntKind.wrap .i32 (r27.R_.g 0)) == (-4))), (46, vb ((IntKind.wrap .i32 (r27.R_.g 0)) == (-4))), (47, vb ((IntKind.wrap .i32 (r27.R_.g 0)) == (-4)))], [B17], H24⟩ ?_
 rcases bool_cases ((IntKind.wrap .i32 (r27.R_.g 0)) == (-4)) with h30 | h30
 refine o_eq (congrArg (fun q => (⟨[E16, E21, E22, (39, vT), (40, vT), E23, E24, E25, E26, (45, vb q), (46, vb q), (47, vb q)], [B17], H24⟩ : St)) h30) ?_
 refine yr 6 ⟨[(0, vT), E16, E21, E22, (39, vT), (40, vT), E23, E24, E25, E26, (45, vT), (46, vT), (47, vT), (48, vT), (49, vT), (50, vT), (51, vT), (52, vT)], [B17], H24⟩ ?_
 refine o_eq2 (congrArg (fun q0 => (⟨[(0, vb q0)], [], H24⟩ : St)) (show true = ((r27.State_ == 1) && (((IntKind.wrap .i32 (r27.R_.g 0)) == (-4)) || false)) by simp [h29, h30])) ?_
 exact ye
 refine o_eq (congrArg (fun q => (⟨[E16, E21, E22, (39, vT), (40, vT), E23, E24, E25, E26, (45, vb q), (46, vb q), (47, vb q)], [B17], H24⟩ : St)) h30) ?_
 refine yr 6 ⟨[(0, vF), E16, E21, E22, (39, vT), (40, vT), E23, E24, E25, E26, (45, vF), (46, vF), (47, vF), (48, vF), (49, vF), (50, vF), (51, vF), (52, vF)], [B17], H24⟩ ?_
 refine o_eq2 (congrArg (fun q0 => (⟨[(0, vb q0)], [], H24⟩ : St)) (show false = ((r27.State_ == 1) && (((IntKind.wrap .i32 (r27.R_.g 0)) == (-4)) || false)) by simp [h29, h30])) ?_
 exact ye
 refine o_eq (congrArg (fun q => (⟨[E16, E21, E22, (39, vb q), (40, vb q)], [B17], H24⟩ : St)) h29) ?_
 refine yr 13 ⟨[(0, vF), E16, E21, E22, (39, vF), (40, vF), (41, vN), (42, vN), (43, vN), (44, vN), (45, vN), (46, vF), (47, vF), (48, vF), (49, vF), (50, vF), (51, vF), (52, vF)], [B17], H24⟩ ?_
 refine o_eq2 (congrArg (fun q0 => (⟨[(0, vb q0)], [], H24⟩ : St)) (show false = ((r27.State_ == 1) && (((IntKind.wrap .i32 (r27.R_.g 0)) == (-4)) || false)) by simp [h29])) ?_
 exact ye
 refine w_ret ?_
 obtain ⟨e0, e1⟩ := some2_inv hF
 subst e0
 subst e1
 exact yi (vb ((r27.State_ == 1) && (((IntKind.wrap .i32 (r27.R_.g 0)) == (-4)) || false)))
noncomputable def emit_Code_Jump (H : Heap) (p0 : Ptr) (p1 : Int) (p2 : Int) : Option (Heap × Int) :=
  bind2 (emit_Code_Put H p0 (T_instr_Instr.mk p1 p2 0 0 0)) fun H3 r1 =>
  some (H3, r1)
theorem ok_emit_Code_Jump (H : Heap) {p0 : Ptr} {p1 : Int} {p2 : Int} {ra : Int} {Hr : Heap} (hF : emit_Code_Jump H p0 p1 p2 = some (Hr, ra)) : evS X 41 [.one .top (Ptr.av p0), .one .top (.int .i64 p1), .one .top (.int .i64 p2)] H = some (.one .top (.int .i64 ra), Hr) := by
 let E1 : Ptr → EN := fun z0 => (0, vp z0)
 let E2 : EN := (1, vi p1)
 let E3 : EN := (2, vi p2)
 let E4 : EN := (10, .agg [(.top, .int .i64 p1), (.top, .int .i64 p2), (.top, .int .i64 0), (.top, .int .i64 0), (.top, .int .i64 0)])
 let S5 : Ptr → St := fun z0 => ⟨[(E1 z0), E2, E3], [], H⟩
 let S6 : Ptr → St := fun z0 => ⟨[(E1 z0), E2, E3, (7, vp z0), (8, vi p1), (9, vi p2), E4], [], H⟩
 refine yf Try.func41 false (S5 p0) ?_
 unfold emit_Code_Jump at hF
 refine ysg (S5 p0) ?_ (h := (by generalize p0 = qp0; cases qp0 <;> kernel_rfl))
 refine w_seq ?_
 obtain ⟨H3, r1, c2, hF⟩ := bind2_inv hF
 refine w_regO ⟨[(6, vi r1)], [], H3⟩ ?_ ?_
 refine yr 4 (S6 p0) ?_ (h := (by generalize p0 = qp0; cases qp0 <;> kernel_rfl))
 refine o_one ⟨[(E1 p0), E2, E3, (7, vp p0), (8, vi p1), (9, vi p2), E4, (11, vi r1)], [], H3⟩ (yc (some 11) false false (S6 p0) (ok_emit_Code_Put H c2) (hr := (by generalize p0 = qp0; cases qp0 <;> kernel_rfl)) (hs := (by generalize p0 = qp0; cases qp0 <;> kernel_rfl))) ?_
 refine yr 1 ⟨[(E1 p0), E2, E3, (6, vi r1), (7, vp p0), (8, vi p1), (9, vi p2), E4, (11, vi r1)], [], H3⟩ ?_ (h := (by generalize p0 = qp0; cases qp0 <;> kernel_rfl))
 exact ye
 refine w_ret ?_
 obtain ⟨e0, e1⟩ := some2_inv hF
 subst e0
 subst e1
 exact yi (vi r1)
noncomputable def emit_Code_Here (H : Heap) (p0 : Ptr) : Option (Int) :=
  (p0).bnd fun i1 o2 =>
  bind1 (get_emit_Code H i1 o2) fun x4 =>
  some (x4.words_.length : Int)
theorem ok_emit_Code_Here (H : Heap) {p0 : Ptr} {ra : Int} (hF : emit_Code_Here H p0 = some ra) : evS X 42 [.one .top (Ptr.av p0)] H = some (.one .top (.int .i64 ra), H) := by
 refine yf Try.func42 true ⟨[(0, vp p0)], [], H⟩ ?_
 unfold emit_Code_Here at hF
 refine ysg ⟨[(0, vp p0)], [], H⟩ ?_ (h := (by generalize p0 = qp0; cases qp0 <;> kernel_rfl))
 refine w_seq ?_
 obtain ⟨i1, o2, h3, hF⟩ := pbnd_inv hF
 let E2 : EN := (0, vo i1 o2)
 let E3 : EN := (3, vo i1 o2)
 let E4 : EN := (4, vo i1 o2)
 let E5 : EN := (5, vo i1 o2)
 let S8 : St := ⟨[E2, E3, E4, E5], [], H⟩
 obtain ⟨x4, V5, hF⟩ := bind1_inv hF
 replace V5 := hgetT_inv V5
 let E1 : EN := (2, vi (x4.words_.length : Int))
 let E6 : EN := (6, .one .bh (.sl 1 (List.map (eI .u32) x4.words_)))
 let E7 : EN := (7, vi (x4.words_.length : Int))
 let S9 : St := ⟨[E2, E3, E4, E5, E6], [], H⟩
 refine w_regO ⟨[E1], [], H⟩ ?_ ?_
 refine yr 1 ⟨[(0, vp p0), (3, vp p0)], [], H⟩ ?_ (h := (by generalize p0 = qp0; cases qp0 <;> kernel_rfl))
 refine o_eq (congrArg (fun q => (⟨[(0, vp q), (3, vp q)], [], H⟩ : St)) h3) ?_
 refine yr 1 ⟨[E2, E3, E4], [], H⟩ ?_
 refine yr 1 S8 ?_
 refine o_one S9 (yd (X := X) S8 42 V5 0 1 false (.one .bh (.sl 1 (List.map (eI .u32) x4.words_))) (some 6)) ?_
 refine o_one ⟨[E2, E3, E4, E5, E6, E7], [], H⟩ (yl S9 x4.words_ (eI .u32) (some 7)) ?_
 refine yr 1 ⟨[E2, E1, E3, E4, E5, E6, E7], [], H⟩ ?_
 exact ye
 refine w_ret ?_
 obtain e0 := some1_inv hF
 subst e0
 exact yp (vi (x4.words_.length : Int))
theorem len_emit_Code_Here {H : Heap} {i o : Nat} {l : List Int} {cs : List MC} (V : hget H i o 8 = some ((.own 1, .sl 1 (List.map (eI .u32) l)) :: cs)) : evS X 42 [.one .top (.obj i o)] H = some (.one .top (.int .i64 (l.length : Int)), H) := by
 refine yf Try.func42 true ⟨[(0, vo i o)], [], H⟩ ?_
 refine ysg ⟨[(0, vo i o)], [], H⟩ ?_
 refine yso ⟨[(2, vi (l.length : Int))], [], H⟩ ?_ ?_
 refine yr 3 ⟨[(0, vo i o), (3, vo i o), (4, vo i o), (5, vo i o)], [], H⟩ ?_
 refine o_one ⟨[(0, vo i o), (3, vo i o), (4, vo i o), (5, vo i o), (6, .one .bh (.sl 1 (List.map (eI .u32) l)))], [], H⟩ (yd (X := X) ⟨[(0, vo i o), (3, vo i o), (4, vo i o), (5, vo i o)], [], H⟩ 42 V 0 1 false (.one .bh (.sl 1 (List.map (eI .u32) l))) (some 6)) ?_
 refine o_one ⟨[(0, vo i o), (3, vo i o), (4, vo i o), (5, vo i o), (6, .one .bh (.sl 1 (List.map (eI .u32) l))), (7, vi (l.length : Int))], [], H⟩ (yl ⟨[(0, vo i o), (3, vo i o), (4, vo i o), (5, vo i o), (6, .one .bh (.sl 1 (List.map (eI .u32) l)))], [], H⟩ l (eI .u32) (some 7)) ?_
 refine yr 1 ⟨[(0, vo i o), (2, vi (l.length : Int)), (3, vo i o), (4, vo i o), (5, vo i o), (6, .one .bh (.sl 1 (List.map (eI .u32) l))), (7, vi (l.length : Int))], [], H⟩ ?_
 exact ye
 refine w_ret ?_
 exact yp (vi (l.length : Int))
noncomputable def emit_Code_Most (H : Heap) (p0 : Ptr) : Option (Heap × Int) :=
  (p0).bnd fun i1 o2 =>
  bind1 (get_emit_Code H i1 o2) fun x4 =>
  bnd (set_emit_Code H i1 o2 (T_emit_Code.mk x4.words_ x4.fixups_ x4.marks_ x4.pads_ x4.active_ x4.depth_ x4.depth_ x4.err_)) fun H6 =>
  some (H6, x4.most_)
theorem ok_emit_Code_Most (H : Heap) {p0 : Ptr} {ra : Int} {Hr : Heap} (hF : emit_Code_Most H p0 = some (Hr, ra)) : evS X 81 [.one .top (Ptr.av p0)] H = some (.one .top (.int .i64 ra), Hr) := by
 refine yf Try.func81 false ⟨[(0, vp p0)], [], H⟩ ?_
 unfold emit_Code_Most at hF
 refine ysg ⟨[(0, vp p0)], [], H⟩ ?_ (h := (by generalize p0 = qp0; cases qp0 <;> kernel_rfl))
 refine w_seq ?_
 obtain ⟨i1, o2, h3, hF⟩ := pbnd_inv hF
 let E1 : EN := (0, vo i1 o2)
 let E3 : EN := (4, vo i1 o2)
 let E4 : EN := (5, vo i1 o2)
 let E5 : EN := (6, vo i1 (o2 + 6))
 let E6 : EN := (8, vo i1 o2)
 let E7 : EN := (9, vo i1 o2)
 let E8 : EN := (10, vo i1 o2)
 let E9 : EN := (11, vo i1 (o2 + 5))
 let E11 : EN := (13, vo i1 o2)
 let E12 : EN := (14, vo i1 (o2 + 6))
 let S13 : St := ⟨[E1, E3, E4, E5], [], H⟩
 obtain ⟨x4, V5, hF⟩ := bind1_inv hF
 replace V5 := hgetT_inv V5
 let E2 : EN := (3, vi x4.most_)
 let E10 : EN := (12, vi x4.depth_)
 let S14 : St := ⟨[E1, E2, E6, E7, E8, E9], [], H⟩
 let S15 : St := ⟨[E1, E2, E6, E7, E8, E9, E10, E11, E12], [], H⟩
 refine w_regO ⟨[E1, E2], [], H⟩ ?_ ?_
 refine yr 1 ⟨[(0, vp p0), (4, vp p0)], [], H⟩ ?_ (h := (by generalize p0 = qp0; cases qp0 <;> kernel_rfl))
 refine o_eq (congrArg (fun q => (⟨[(0, vp q), (4, vp q)], [], H⟩ : St)) h3) ?_
 refine yr 1 ⟨[E1, E3, E4], [], H⟩ ?_
 refine yr 1 S13 ?_
 refine o_one ⟨[E1, E3, E4, E5, (7, vi x4.most_)], [], H⟩ (yd (X := X) S13 3 V5 6 1 false (vi x4.most_) (some 7)) ?_
 refine yr 1 ⟨[E1, E2, E3, E4, E5, (7, vi x4.most_)], [], H⟩ ?_
 exact ye
 refine w_seq ?_
 obtain ⟨H6, h7, hF⟩ := bnd_inv hF
 have V8 : hget H6 i1 o2 8 = some (o_emit_Code (T_emit_Code.mk x4.words_ x4.fixups_ x4.marks_ x4.pads_ x4.active_ x4.depth_ x4.depth_ x4.err_)) := by rw [← h7]; exact hset_get V5 rfl
 refine w_regO ⟨[E2], [], H6⟩ ?_ ?_
 refine yr 4 S14 ?_
 refine o_one ⟨[E1, E2, E6, E7, E8, E9, E10], [], H⟩ (yd (X := X) S14 3 V5 5 1 false (vi x4.depth_) (some 12)) ?_
 refine yr 2 S15 ?_
 refine o_one ⟨[E1, E2, E6, E7, E8, E9, E10, E11, E12], [], (hset H i1 o2 [((.own 1), .sl 1 (List.map (eI .u32) x4.words_)), ((.own 1), .sl 4 (List.map e_api_Fixup x4.fixups_)), ((.own 1), .sl 2 (List.map e_api_Segment x4.marks_.list_)), ((.own 1), .sl 1 (List.map (eI .i64) x4.pads_)), ((.own 1), .sl 1 (List.map (eI .i64) x4.active_)), (.top, .int .i64 x4.depth_), (.top, .int .i64 x4.depth_), (.top, .int .i64 x4.err_)])⟩ (st_st (X := X) (lc := []) (h2 := (hset H i1 o2 [((.own 1), .sl 1 (List.map (eI .u32) x4.words_)), ((.own 1), .sl 4 (List.map e_api_Fixup x4.fixups_)), ((.own 1), .sl 2 (List.map e_api_Segment x4.marks_.list_)), ((.own 1), .sl 1 (List.map (eI .i64) x4.pads_)), ((.own 1), .sl 1 (List.map (eI .i64) x4.active_)), (.top, .int .i64 x4.depth_), (.top, .int .i64 x4.depth_), (.top, .int .i64 x4.err_)])) S15 3 V5 6 1 (vi x4.depth_) (by kernel_rfl) (by kernel_rfl) (by kernel_rfl) (by kernel_rfl) (by kernel_rfl) (by kernel_rfl) (hset_sub0 V5 (Nat.le_of_ble_eq_true rfl)) (by kernel_rfl)) ?_
 refine o_eq (congrArg (fun q => (⟨[E1, E2, E6, E7, E8, E9, E10, E11, E12], [], q⟩ : St)) h7) ?_
 exact ye
 refine ysg ⟨[(2, vi x4.most_)], [], H6⟩ ?_
 refine w_ret ?_
 obtain ⟨e0, e1⟩ := some2_inv hF
 subst e0
 subst e1
 exact yi (vi x4.most_)
noncomputable def word_Sext  (p0 : Int) (p1 : Int) : Option (Int) :=
  if (decide (p1 < 1)) = true then (some 0)
  else (bind1 (shlI .u32 p0 (IntKind.wrap .i64 (32 - (if 32 < p1 then 32 else p1)))) fun v2 =>
  bind1 (shrI .i32 (IntKind.wrap .i32 v2) (IntKind.wrap .i64 (32 - (if 32 < p1 then 32 else p1)))) fun v4 =>
  some v4)
theorem ok_word_Sext (H : Heap) {p0 : Int} {p1 : Int} {ra : Int} (hF : word_Sext p0 p1 = some ra) : evS X 121 [.one .top (.int .u32 p0), .one .top (.int .i64 p1)] H = some (.one .top (.int .i32 ra), H) := by
 let E1 : EN := (0, vu p0)
 let E2 : EN := (5, vi (IntKind.wrap .i64 (32 - (if 32 < p1 then 32 else p1))))
 let E4 : EN := (11, vu p0)
 let E5 : EN := (12, vi (IntKind.wrap .i64 (32 - (if 32 < p1 then 32 else p1))))
 let E8 : EN := (15, vi (IntKind.wrap .i64 (32 - (if 32 < p1 then 32 else p1))))
 let S10 : St := ⟨[E1, (1, vi p1)], [], H⟩
 let S11 : St := ⟨[E1, E2, E4, E5], [], H⟩
 refine yf Try.func121 true S10 ?_
 unfold word_Sext at hF
 refine ysg S10 ?_
 refine w_seq ?_
 refine ysg ⟨[E1, (1, vi p1), (7, vb (decide (p1 < 1)))], [], H⟩ ?_
 rcases if_inv hF with ⟨h1, hF⟩ | ⟨h1, hF⟩
 refine yT h1 ⟨[], [], H⟩ ?_
 refine ysg ⟨[(4, .one .top (.int .i32 0))], [], H⟩ ?_
 refine w_ret ?_
 obtain e0 := some1_inv hF
 subst e0
 exact yp (.one .top (.int .i32 0))
 refine yF h1 S10 ?_
 refine w_skip ?_
 refine ysg ⟨[E1, E2], [], H⟩ ?_
 refine w_seq ?_
 obtain ⟨v2, h3, hF⟩ := bind1_inv hF
 let E6 : EN := (13, vu v2)
 let E7 : EN := (14, .one .top (.int .i32 (IntKind.wrap .i32 v2)))
 let S12 : St := ⟨[E1, E2, E4, E5, E6, E7, E8], [], H⟩
 obtain ⟨v4, h5, hF⟩ := bind1_inv hF
 let E3 : EN := (4, .one .top (.int .i32 v4))
 let E9 : EN := (16, .one .top (.int .i32 v4))
 refine w_regO ⟨[E3], [], H⟩ ?_ ?_
 refine yr 2 S11 ?_
 refine o_one ⟨[E1, E2, E4, E5, E6], [], H⟩ (st_binI S11 .u32 h3 (ev_shl (P := X.P) (ty := 35) (x := (.tmp 11)) (y := (.tmp 12)) (m := .top) (m' := .top) (k := .u32) (k' := .i64) (a := p0) (b := (IntKind.wrap .i64 (32 - (if 32 < p1 then 32 else p1))))) (some 13) (by kernel_rfl) (by kernel_rfl)) ?_
 refine yr 2 S12 ?_
 refine o_one ⟨[E1, E2, E4, E5, E6, E7, E8, E9], [], H⟩ (st_binI S12 .i32 h5 (ev_shr (P := X.P) (ty := 21) (x := (.tmp 14)) (y := (.tmp 15)) (m := .top) (m' := .top) (k := .i32) (k' := .i64) (a := (IntKind.wrap .i32 v2)) (b := (IntKind.wrap .i64 (32 - (if 32 < p1 then 32 else p1))))) (some 16) (by kernel_rfl) (by kernel_rfl)) ?_
 refine yr 1 ⟨[E1, E3, E2, E4, E5, E6, E7, E8, E9], [], H⟩ ?_
 exact ye
 refine w_ret ?_
 obtain e0 := some1_inv hF
 subst e0
 exact yp (.one .top (.int .i32 v4))
noncomputable def instr_Decode_j3 (p0 : Int) (j5 : T_instr_Instr) : Option (T_instr_Instr × Int) :=
  bind2 (instr_Encode j5) fun r6 r7 =>
  if ((r7 != 0) || (r6 != p0)) = true then (some ((T_instr_Instr.mk 0 0 0 0 0), 21))
  else (some (j5, 0))
noncomputable def instr_Decode_j5 (p0 : Int) (j15 : T_instr_Instr) : Option (T_instr_Instr × Int) :=
  instr_Decode_j3 p0 j15
noncomputable def instr_Decode_j6 (p0 : Int) (j17 : T_instr_Instr) : Option (T_instr_Instr × Int) :=
  instr_Decode_j5 p0 j17
noncomputable def instr_Decode_j7 (p0 : Int) (j21 : T_instr_Instr) : Option (T_instr_Instr × Int) :=
  instr_Decode_j6 p0 j21
noncomputable def instr_Decode_j4 (p0 : Int) (j3 : T_instr_Instr) (r1 : Int) (j14 : Bool) : Option (T_instr_Instr × Int) :=
  if j14 = true then (instr_Decode_j5 p0 (T_instr_Instr.mk j3.Op_ j3.A_ j3.B_ j3.C_ (IntKind.wrap .i64 (bitsOf .and .u32 p0 65535))))
  else (if (r1 == 7) = true then (bind1 (word_Sext p0 24) fun r19 =>
  instr_Decode_j6 p0 (T_instr_Instr.mk j3.Op_ j3.A_ j3.B_ j3.C_ (IntKind.wrap .i64 r19)))
  else (if (r1 == 5) = true then (instr_Decode_j7 p0 (T_instr_Instr.mk j3.Op_ j3.A_ j3.B_ (IntKind.wrap .i64 (bitsOf .and .u32 p0 15)) j3.Imm_))
  else (instr_Decode_j7 p0 j3)))
noncomputable def instr_Decode_j8 (p0 : Int) (j3 : T_instr_Instr) (r1 : Int) (j24 : Bool) : Option (T_instr_Instr × Int) :=
  instr_Decode_j4 p0 j3 r1 j24
noncomputable def instr_Decode_j2 (p0 : Int) (j3 : T_instr_Instr) (r1 : Int) (j4 : Bool) : Option (T_instr_Instr × Int) :=
  if j4 = true then (bind1 (word_Sext p0 16) fun r12 =>
  instr_Decode_j3 p0 (T_instr_Instr.mk j3.Op_ j3.A_ j3.B_ j3.C_ (IntKind.wrap .i64 r12)))
  else (if (r1 == 2) = true then (instr_Decode_j4 p0 j3 r1 (r1 == 2))
  else (if (r1 == 4) = true then (instr_Decode_j8 p0 j3 r1 (r1 == 4))
  else (instr_Decode_j8 p0 j3 r1 (r1 == 8))))
noncomputable def instr_Decode_j1 (r1 : Int) (p0 : Int) (j3 : T_instr_Instr) : Option (T_instr_Instr × Int) :=
  if (r1 == 1) = true then (instr_Decode_j2 p0 j3 r1 (r1 == 1))
  else (instr_Decode_j2 p0 j3 r1 (r1 == 3))
noncomputable def instr_Decode  (p0 : Int) : Option (T_instr_Instr × Int) :=
  bind1 (instr_Shape (IntKind.wrap .i64 (Int.fdiv p0 (2 ^ 24)))) fun r1 =>
  if (r1 != 7) = true then (instr_Decode_j1 r1 p0 (T_instr_Instr.mk (IntKind.wrap .i64 (Int.fdiv p0 (2 ^ 24))) (IntKind.wrap .i64 (bitsOf .and .u32 (Int.fdiv p0 (2 ^ 20)) 15)) (IntKind.wrap .i64 (bitsOf .and .u32 (Int.fdiv p0 (2 ^ 16)) 15)) 0 0))
  else (instr_Decode_j1 r1 p0 (T_instr_Instr.mk (IntKind.wrap .i64 (Int.fdiv p0 (2 ^ 24))) 0 0 0 0))
theorem ok_instr_Decode (H : Heap) {p0 : Int} {ra : T_instr_Instr} {rb : Int} (hF : instr_Decode p0 = some (ra, rb)) : evS X 101 [.one .top (.int .u32 p0)] H = some (.tup [.agg [(.top, .int .i64 ra.Op_), (.top, .int .i64 ra.A_), (.top, .int .i64 ra.B_), (.top, .int .i64 ra.C_), (.top, .int .i64 ra.Imm_)], .one .top (.int .i64 rb)], H) := by
 let E1 : EN := (0, vu p0)
 let E2 : EN := (2, vl 2 0)
 let B3 : EB := (2, (List.replicate 5 (.top, .int .i64 0)))
 let E4 : EN := (4, vl 4 0)
 let B5 : EB := (4, ([(.top, .int .i64 (IntKind.wrap .i64 (Int.fdiv p0 (2 ^ 24))))] ++ List.replicate 4 (.top, .int .i64 0)))
 let E7 : EN := (12, vl 4 0)
 let E8 : EN := (13, vi (IntKind.wrap .i64 (Int.fdiv p0 (2 ^ 24))))
 let E17 : EN := (31, vu p0)
 let E20 : EN := (45, vu p0)
 let S23 : St := ⟨[E1, E2, E4, E7, E8], [B3, B5], H⟩
 refine yf Try.func101 true ⟨[E1], [], H⟩ ?_
 unfold instr_Decode at hF
 refine ysg ⟨[E1, E2], [B3], H⟩ ?_
 refine ysg ⟨[E1, E2, E4], [B3, B5], H⟩ ?_
 refine w_seq ?_
 obtain ⟨r1, c2, hF⟩ := bind1_inv hF
 let E6 : EN := (5, vi r1)
 let E9 : EN := (27, vi r1)
 let S22 : St := ⟨[E1, E2, E4, E6], [B3, B5], H⟩
 refine w_regO S22 ?_ ?_
 refine yr 2 S23 ?_
 refine o_one ⟨[E1, E2, E4, E7, E8, (14, vi r1)], [B3, B5], H⟩ (yc (some 14) true false S23 (ok_instr_Shape H c2)) ?_
 refine yr 1 ⟨[E1, E2, E4, E6, E7, E8, (14, vi r1)], [B3, B5], H⟩ ?_
 exact ye
 refine w_seq ?_
 refine ysg ⟨[E1, E2, E4, E6, (16, vb (r1 != 7))], [B3, B5], H⟩ ?_
 refine w_join (α := (T_instr_Instr)) (fun x => (⟨[E1, E2, E4, E6], [B3, (4, (m0_instr_Instr x))], H⟩ : St)) (fun x => instr_Decode_j1 r1 p0 x = some (ra, rb)) ?_ ?_
 rintro j3 hF
 replace hF : instr_Decode_j1 r1 p0 j3 = some (ra, rb) := hF
 let B10 : EB := (4, (m0_instr_Instr j3))
 let S24 : St := ⟨[E1, E2, E4, E9], [B3, B10], H⟩
 let S25 : St := ⟨[E1, E2, E4, E9, (28, vb (r1 == 1))], [B3, B10], H⟩
 let S27 : St := ⟨[E1, E2, E4], [B3, B10], H⟩
 let S28 : St := ⟨[E1, E2, E4, E17], [B3, B10], H⟩
 let S29 : St := ⟨[E1, E2, E4, E9, (35, vb (r1 == 2))], [B3, B10], H⟩
 let S30 : St := ⟨[E1, E2, E4, E20], [B3, B10], H⟩
 let S31 : St := ⟨[E1, E2, E4, E9, (35, vb (r1 == 4))], [B3, B10], H⟩
 unfold instr_Decode_j1 at hF
 refine w_seq ?_
 refine ysg S24 ?_
 refine w_block ?_
 refine w_seq ?_
 refine ysg S25 ?_
 refine w_join (α := (Bool)) (fun x => (⟨[E1, E2, E4, E9, (28, vb x)], [B3, B10], H⟩ : St)) (fun x => instr_Decode_j2 p0 j3 r1 x = some (ra, rb)) ?_ ?_
 rintro j4 hF
 replace hF : instr_Decode_j2 p0 j3 r1 j4 = some (ra, rb) := hF
 unfold instr_Decode_j2 at hF
 refine w_join (α := (T_instr_Instr)) (fun x => (⟨[E1, E2, E4], [B3, (4, (m0_instr_Instr x))], H⟩ : St)) (fun x => instr_Decode_j3 p0 x = some (ra, rb)) ?_ ?_
 rintro j5 hF
 replace hF : instr_Decode_j3 p0 j5 = some (ra, rb) := hF
 let B13 : EB := (4, (m0_instr_Instr j5))
 let E14 : EN := (56, .agg (m0_instr_Instr j5))
 let S26 : St := ⟨[E1, E2, E4, E14], [B3, B13], H⟩
 unfold instr_Decode_j3 at hF
 refine w_seq ?_
 obtain ⟨r6, r7, c8, hF⟩ := bind2_inv hF
 let E11 : EN := (6, vu r6)
 let E12 : EN := (7, vi r7)
 let E15 : EN := (60, vi r7)
 refine w_regO ⟨[E1, E2, E4, E11, E12], [B3, B13], H⟩ ?_ ?_
 refine yr 1 S26 ?_
 refine o_one ⟨[E1, E2, E4, E14, (57, .tup [vu r6, vi r7])], [B3, B13], H⟩ (yc (some 57) true false S26 (ok_instr_Encode H c8)) ?_
 refine yr 5 ⟨[E1, E2, E4, E11, E12, (55, .tup [vu r6, vi r7]), E14, (57, .tup [vu r6, vi r7]), (58, vu r6), (59, vi r7)], [B3, B13], H⟩ ?_
 exact ye
 refine w_seq ?_
 refine yso ⟨[E2, E4, (66, vb ((r7 != 0) || (r6 != p0)))], [B3, B13], H⟩ ?_ ?_
 refine yr 3 ⟨[E1, E2, E4, E11, E12, E15, (61, vb (r7 != 0)), (62, vb (r7 != 0))], [B3, B13], H⟩ ?_
 rcases bool_cases (r7 != 0) with h9 | h9
 refine o_eq (congrArg (fun q => (⟨[E1, E2, E4, E11, E12, E15, (61, vb q), (62, vb q)], [B3, B13], H⟩ : St)) h9) ?_
 refine yr 4 ⟨[E1, E2, E4, E11, E12, E15, (61, vT), (62, vT), (63, vN), (64, vN), (65, vN), (66, vT)], [B3, B13], H⟩ ?_
 refine o_eq2 (congrArg (fun q0 => (⟨[E2, E4, (66, vb q0)], [B3, B13], H⟩ : St)) (show true = ((r7 != 0) || (r6 != p0)) by simp [h9])) ?_
 exact ye
 refine o_eq (congrArg (fun q => (⟨[E1, E2, E4, E11, E12, E15, (61, vb q), (62, vb q)], [B3, B13], H⟩ : St)) h9) ?_
 refine yr 4 ⟨[E1, E2, E4, E11, E12, E15, (61, vF), (62, vF), (63, vu r6), (64, vu p0), (65, vb (r6 != p0)), (66, vb (r6 != p0))], [B3, B13], H⟩ ?_
 refine o_eq2 (congrArg (fun q0 => (⟨[E2, E4, (66, vb q0)], [B3, B13], H⟩ : St)) (show (r6 != p0) = ((r7 != 0) || (r6 != p0)) by simp [h9])) ?_
 exact ye
 rcases if_inv hF with ⟨h10, hF⟩ | ⟨h10, hF⟩
 refine yT h10 ⟨[E2], [B3], H⟩ ?_
 refine ysg ⟨[E2, (3, vi 21)], [B3], H⟩ ?_
 refine w_ret ?_
 obtain ⟨e0, e1⟩ := some2_inv hF
 subst e0
 subst e1
 exact yp (.tup [.agg (List.replicate 5 (.top, .int .i64 0)), vi 21])
 refine yF h10 ⟨[E2, E4], [B3, B13], H⟩ ?_
 refine w_skip ?_
 refine ysg ⟨[E2, (3, vi 0)], [(2, (m0_instr_Instr j5))], H⟩ ?_
 refine w_ret ?_
 obtain ⟨e0, e1⟩ := some2_inv hF
 subst e0
 subst e1
 exact yp (.tup [.agg (m0_instr_Instr j5), vi 0])
 rcases if_inv hF with ⟨h11, hF⟩ | ⟨h11, hF⟩
 refine yT h11 S27 ?_
 obtain ⟨r12, c13, hF⟩ := bind1_inv hF
 let B16 : EB := (4, [(.top, .int .i64 j3.Op_), (.top, .int .i64 j3.A_), (.top, .int .i64 j3.B_), (.top, .int .i64 j3.C_), (.top, .int .i64 (IntKind.wrap .i64 r12))])
 let E18 : EN := (32, .one .top (.int .i32 r12))
 refine w_regO ⟨[E1, E2, E4], [B3, B16], H⟩ ?_ ?_
 refine yr 1 S28 ?_
 refine o_one ⟨[E1, E2, E4, E17, E18], [B3, B10], H⟩ (yc (some 32) true false S28 (ok_word_Sext H c13)) ?_
 refine yr 3 ⟨[E1, E2, E4, E17, E18, (33, vi (IntKind.wrap .i64 r12)), (34, vl 4 4)], [B3, B16], H⟩ ?_
 exact ye
 exact ⟨(T_instr_Instr.mk j3.Op_ j3.A_ j3.B_ j3.C_ (IntKind.wrap .i64 r12)), hF, (by kernel_rfl)⟩
 refine yF h11 S24 ?_
 refine w_seq ?_
 refine ysg S29 ?_
 refine w_join (α := (Bool)) (fun x => (⟨[E1, E2, E4, E9, (35, vb x)], [B3, B10], H⟩ : St)) (fun x => instr_Decode_j4 p0 j3 r1 x = some (ra, rb)) ?_ ?_
 rintro j14 hF
 replace hF : instr_Decode_j4 p0 j3 r1 j14 = some (ra, rb) := hF
 unfold instr_Decode_j4 at hF
 refine w_join (α := (T_instr_Instr)) (fun x => (⟨[E1, E2, E4], [B3, (4, (m0_instr_Instr x))], H⟩ : St)) (fun x => instr_Decode_j5 p0 x = some (ra, rb)) ?_ ?_
 rintro j15 hF
 replace hF : instr_Decode_j5 p0 j15 = some (ra, rb) := hF
 unfold instr_Decode_j5 at hF
 exact ⟨j15, hF, (by kernel_rfl)⟩
 rcases if_inv hF with ⟨h16, hF⟩ | ⟨h16, hF⟩
 refine yT h16 S27 ?_
 refine yg ⟨[E1, E2, E4], [B3, (4, [(.top, .int .i64 j3.Op_), (.top, .int .i64 j3.A_), (.top, .int .i64 j3.B_), (.top, .int .i64 j3.C_), (.top, .int .i64 (IntKind.wrap .i64 (bitsOf .and .u32 p0 65535)))])], H⟩ ?_
 exact ⟨(T_instr_Instr.mk j3.Op_ j3.A_ j3.B_ j3.C_ (IntKind.wrap .i64 (bitsOf .and .u32 p0 65535))), hF, (by kernel_rfl)⟩
 refine yF h16 S24 ?_
 refine ysg ⟨[E1, E2, E4, E9, (43, vb (r1 == 7))], [B3, B10], H⟩ ?_
 refine w_join (α := (T_instr_Instr)) (fun x => (⟨[E1, E2, E4], [B3, (4, (m0_instr_Instr x))], H⟩ : St)) (fun x => instr_Decode_j6 p0 x = some (ra, rb)) ?_ ?_
 rintro j17 hF
 replace hF : instr_Decode_j6 p0 j17 = some (ra, rb) := hF
 unfold instr_Decode_j6 at hF
 exact ⟨j17, hF, (by kernel_rfl)⟩
 rcases if_inv hF with ⟨h18, hF⟩ | ⟨h18, hF⟩
 refine yT h18 S27 ?_
 obtain ⟨r19, c20, hF⟩ := bind1_inv hF
 let B19 : EB := (4, [(.top, .int .i64 j3.Op_), (.top, .int .i64 j3.A_), (.top, .int .i64 j3.B_), (.top, .int .i64 j3.C_), (.top, .int .i64 (IntKind.wrap .i64 r19))])
 let E21 : EN := (46, .one .top (.int .i32 r19))
 refine w_regO ⟨[E1, E2, E4], [B3, B19], H⟩ ?_ ?_
 refine yr 1 S30 ?_
 refine o_one ⟨[E1, E2, E4, E20, E21], [B3, B10], H⟩ (yc (some 46) true false S30 (ok_word_Sext H c20)) ?_
 refine yr 3 ⟨[E1, E2, E4, E20, E21, (47, vi (IntKind.wrap .i64 r19)), (48, vl 4 4)], [B3, B19], H⟩ ?_
 exact ye
 exact ⟨(T_instr_Instr.mk j3.Op_ j3.A_ j3.B_ j3.C_ (IntKind.wrap .i64 r19)), hF, (by kernel_rfl)⟩
 refine yF h18 S24 ?_
 refine ysg ⟨[E1, E2, E4, (49, vb (r1 == 5))], [B3, B10], H⟩ ?_
 refine w_join (α := (T_instr_Instr)) (fun x => (⟨[E1, E2, E4], [B3, (4, (m0_instr_Instr x))], H⟩ : St)) (fun x => instr_Decode_j7 p0 x = some (ra, rb)) ?_ ?_
 rintro j21 hF
 replace hF : instr_Decode_j7 p0 j21 = some (ra, rb) := hF
 unfold instr_Decode_j7 at hF
 exact ⟨j21, hF, (by kernel_rfl)⟩
 rcases if_inv hF with ⟨h22, hF⟩ | ⟨h22, hF⟩
 refine yT h22 S27 ?_
 refine yg ⟨[E1, E2, E4], [B3, (4, [(.top, .int .i64 j3.Op_), (.top, .int .i64 j3.A_), (.top, .int .i64 j3.B_), (.top, .int .i64 (IntKind.wrap .i64 (bitsOf .and .u32 p0 15))), (.top, .int .i64 j3.Imm_)])], H⟩ ?_
 exact ⟨(T_instr_Instr.mk j3.Op_ j3.A_ j3.B_ (IntKind.wrap .i64 (bitsOf .and .u32 p0 15)) j3.Imm_), hF, (by kernel_rfl)⟩
 refine yF h22 S27 ?_
 refine w_skip ?_
 exact ⟨j3, hF, (by kernel_rfl)⟩
 rcases if_inv hF with ⟨h23, hF⟩ | ⟨h23, hF⟩
 refine yT h23 S29 ?_
 refine w_skip ?_
 exact ⟨(r1 == 2), hF, (by kernel_rfl)⟩
 refine yF h23 S24 ?_
 refine ysg S31 ?_
 refine w_join (α := (Bool)) (fun x => (⟨[E1, E2, E4, E9, (35, vb x)], [B3, B10], H⟩ : St)) (fun x => instr_Decode_j8 p0 j3 r1 x = some (ra, rb)) ?_ ?_
 rintro j24 hF
 replace hF : instr_Decode_j8 p0 j3 r1 j24 = some (ra, rb) := hF
 unfold instr_Decode_j8 at hF
 exact ⟨j24, hF, (by kernel_rfl)⟩
 rcases if_inv hF with ⟨h25, hF⟩ | ⟨h25, hF⟩
 refine yT h25 S31 ?_
 refine w_skip ?_
 exact ⟨(r1 == 4), hF, (by kernel_rfl)⟩
 refine yF h25 S24 ?_
 refine yg ⟨[E1, E2, E4, E9, (35, vb (r1 == 8))], [B3, B10], H⟩ ?_
 exact ⟨(r1 == 8), hF, (by kernel_rfl)⟩
 rcases if_inv hF with ⟨h26, hF⟩ | ⟨h26, hF⟩
 refine yT h26 S25 ?_
 refine w_skip ?_
 exact ⟨(r1 == 1), hF, (by kernel_rfl)⟩
 refine yF h26 S24 ?_
 refine yg ⟨[E1, E2, E4, E9, (28, vb (r1 == 3))], [B3, B10], H⟩ ?_
 exact ⟨(r1 == 3), hF, (by kernel_rfl)⟩
 rcases if_inv hF with ⟨h27, hF⟩ | ⟨h27, hF⟩
 refine yT h27 S22 ?_
 refine yg ⟨[E1, E2, E4, E6], [B3, (4, [(.top, .int .i64 (IntKind.wrap .i64 (Int.fdiv p0 (2 ^ 24)))), (.top, .int .i64 (IntKind.wrap .i64 (bitsOf .and .u32 (Int.fdiv p0 (2 ^ 20)) 15))), (.top, .int .i64 (IntKind.wrap .i64 (bitsOf .and .u32 (Int.fdiv p0 (2 ^ 16)) 15))), (.top, .int .i64 0), (.top, .int .i64 0)])], H⟩ ?_
 exact ⟨(T_instr_Instr.mk (IntKind.wrap .i64 (Int.fdiv p0 (2 ^ 24))) (IntKind.wrap .i64 (bitsOf .and .u32 (Int.fdiv p0 (2 ^ 20)) 15)) (IntKind.wrap .i64 (bitsOf .and .u32 (Int.fdiv p0 (2 ^ 16)) 15)) 0 0), hF, (by kernel_rfl)⟩
 refine yF h27 S22 ?_
 refine w_skip ?_
 exact ⟨(T_instr_Instr.mk (IntKind.wrap .i64 (Int.fdiv p0 (2 ^ 24))) 0 0 0 0), hF, (by kernel_rfl)⟩
noncomputable def emit_Code_set (H : Heap) (p0 : Ptr) (p1 : Int) (p2 : Int) : Option (Heap) :=
  bind2 (if (decide (p1 < 0)) = true then (some (p0, true)) else ((p0).bnd fun i2 o3 =>
  bind1 (get_emit_Code H i2 o3) fun x5 =>
  some ((Ptr.at i2 o3), (decide (p1 ≥ (x5.words_.length : Int)))))) fun w7 w8 =>
  if w8 = true then (bind1 (emit_Code_Fail H w7 52) fun H12 =>
  some H12)
  else ((w7).bnd fun i13 o14 =>
  bind1 (get_emit_Code H i13 o14) fun x16 =>
  bind1 (gi x16.words_ p1) fun x18 =>
  bind2 (instr_Decode x18) fun r20 r21 =>
  bind2 (instr_Encode (T_instr_Instr.mk r20.Op_ r20.A_ r20.B_ r20.C_ p2)) fun r23 r24 =>
  if (r24 != 0) = true then (bind1 (emit_Code_Fail H (Ptr.at i13 o14) 52) fun H28 =>
  some H28)
  else (bind1 (gi x16.words_ p1) fun x29 =>
  bind1 (si x16.words_ p1 r23) fun v31 =>
  bnd (set_emit_Code H i13 o14 (T_emit_Code.mk v31 x16.fixups_ x16.marks_ x16.pads_ x16.active_ x16.depth_ x16.most_ x16.err_)) fun H33 =>
  some H33))
theorem ok_emit_Code_set (H : Heap) {p0 : Ptr} {p1 : Int} {p2 : Int} {Hr : Heap} (hF : emit_Code_set H p0 p1 p2 = some Hr) : evS X 86 [.one .top (Ptr.av p0), .one .top (.int .i64 p1), .one .top (.int .i64 p2)] H = some (.tup [], Hr) := by
 let E1 : Ptr → EN := fun z0 => (0, vp z0)
 let E2 : EN := (1, vi p1)
 let E3 : EN := (2, vi p2)
 let E5 : EN := (10, vi p1)
 let E6 : EN := (11, vF)
 let E7 : EN := (12, vF)
 let E8 : EN := (13, vi p1)
 let E16 : EN := (6, vl 6 0)
 let E21 : EN := (28, vi p1)
 let E34 : EN := (49, vi p1)
 refine yf Try.func86 false ⟨[(E1 p0), E2, E3], [], H⟩ ?_
 unfold emit_Code_set at hF
 refine w_seq ?_
 refine w_seq ?_
 obtain ⟨w7, w8, hB9, hF⟩ := bind2_inv hF
 let E4 : Ptr → EN := fun z0 => (0, vp z0)
 let S39 : Ptr → St := fun z0 => ⟨[(E4 z0), (21, vp z0)], [], H⟩
 refine w_regO ⟨[(E4 w7), E2, E3, (20, vb w8)], [], H⟩ ?_ ?_
 refine yr 3 ⟨[(E1 p0), E2, E3, E5, (11, vb (decide (p1 < 0))), (12, vb (decide (p1 < 0)))], [], H⟩ ?_ (h := (by generalize p0 = qp0; cases qp0 <;> kernel_rfl))
 rcases if_inv hB9 with ⟨h1, hB9⟩ | ⟨h1, hB9⟩
 refine o_eq (congrArg (fun q => (⟨[(E1 p0), E2, E3, E5, (11, vb q), (12, vb q)], [], H⟩ : St)) h1) ?_
 refine yr 8 ⟨[(E1 p0), E2, E3, E5, (11, vT), (12, vT), (13, vN), (14, vN), (15, vN), (16, vN), (17, vN), (18, vN), (19, vN), (20, vT)], [], H⟩ ?_ (h := (by generalize p0 = qp0; cases qp0 <;> kernel_rfl))
 cases hB9
 exact ye
 refine o_eq (congrArg (fun q => (⟨[(E1 p0), E2, E3, E5, (11, vb q), (12, vb q)], [], H⟩ : St)) h1) ?_
 refine yr 2 ⟨[(E1 p0), E2, E3, E5, E6, E7, E8, (14, vp p0)], [], H⟩ ?_ (h := (by generalize p0 = qp0; cases qp0 <;> kernel_rfl))
 obtain ⟨i2, o3, h4, hB9⟩ := pbnd_inv hB9
 let E9 : EN := (0, vo i2 o3)
 let E10 : EN := (14, vo i2 o3)
 let E11 : EN := (15, vo i2 o3)
 let E12 : EN := (16, vo i2 o3)
 let S37 : St := ⟨[E9, E2, E3, E5, E6, E7, E8, E10, E11, E12], [], H⟩
 refine o_eq (congrArg (fun q => (⟨[(0, vp q), E2, E3, E5, E6, E7, E8, (14, vp q)], [], H⟩ : St)) h4) ?_
 refine yr 1 ⟨[E9, E2, E3, E5, E6, E7, E8, E10, E11], [], H⟩ ?_
 obtain ⟨x5, V6, hB9⟩ := bind1_inv hB9
 replace V6 := hgetT_inv V6
 let E13 : EN := (17, .one .bh (.sl 1 (List.map (eI .u32) x5.words_)))
 let E14 : EN := (18, vi (x5.words_.length : Int))
 let S38 : St := ⟨[E9, E2, E3, E5, E6, E7, E8, E10, E11, E12, E13], [], H⟩
 refine yr 1 S37 ?_
 refine o_one S38 (yd (X := X) S37 42 V6 0 1 false (.one .bh (.sl 1 (List.map (eI .u32) x5.words_))) (some 17)) ?_
 refine o_one ⟨[E9, E2, E3, E5, E6, E7, E8, E10, E11, E12, E13, E14], [], H⟩ (yl S38 x5.words_ (eI .u32) (some 18)) ?_
 refine yr 2 ⟨[E9, E2, E3, E5, E6, E7, E8, E10, E11, E12, E13, E14, (19, vb (decide (p1 ≥ (x5.words_.length : Int)))), (20, vb (decide (p1 ≥ (x5.words_.length : Int))))], [], H⟩ ?_
 cases hB9
 exact ye
 rcases if_inv hF with ⟨h10, hF⟩ | ⟨h10, hF⟩
 refine yT h10 ⟨[(E4 w7)], [], H⟩ ?_
 refine w_seq ?_
 obtain ⟨H12, c11, hF⟩ := bind1_inv hF
 refine w_regO ⟨[], [], H12⟩ ?_ ?_
 refine yr 1 (S39 w7) ?_ (h := (by generalize w7 = qp0; cases qp0 <;> kernel_rfl))
 refine o_one ⟨[(E4 w7), (21, vp w7), (22, vN)], [], H12⟩ (yc (some 22) false false (S39 w7) (ok_emit_Code_Fail H c11) (hr := (by generalize w7 = qp0; cases qp0 <;> kernel_rfl)) (hs := (by generalize w7 = qp0; cases qp0 <;> kernel_rfl))) ?_
 exact ye
 refine w_ret ?_
 obtain e0 := some1_inv hF
 subst e0
 exact yi (vN)
 refine yF h10 ⟨[(E4 w7), E2, E3], [], H⟩ ?_
 refine w_skip ?_
 refine w_seq ?_
 obtain ⟨i13, o14, h15, hF⟩ := pbnd_inv hF
 let E15 : EN := (0, vo i13 o14)
 let E17 : EN := (24, vo i13 o14)
 let E18 : EN := (25, vo i13 o14)
 let E19 : EN := (26, vo i13 o14)
 let E29 : EN := (43, vo i13 o14)
 let E30 : EN := (45, vo i13 o14)
 let E31 : EN := (46, vo i13 o14)
 let E32 : EN := (47, vo i13 o14)
 let E36 : EN := (51, .one .top (.el (.obj i13 o14) (Int.toNat p1) 0))
 let S40 : St := ⟨[E15, E2, E3, E17, E18, E19], [], H⟩
 obtain ⟨x16, V17, hF⟩ := bind1_inv hF
 replace V17 := hgetT_inv V17
 let E20 : EN := (27, .one .bh (.sl 1 (List.map (eI .u32) x16.words_)))
 let E33 : EN := (48, .one .top (.at_ (.obj i13 o14) 0 ((List.map (eI .u32) x16.words_).length)))
 let S41 : St := ⟨[E15, E2, E3, E17, E18, E19, E20, E21], [], H⟩
 obtain ⟨x18, h19, hF⟩ := bind1_inv hF
 let E22 : EN := (29, .one .top (.rd .bh .bh [.int .u32 x18] 0))
 let E23 : EN := (30, vu x18)
 let S42 : St := ⟨[E15, E2, E3, E17, E18, E19, E20, E21, E22, E23], [], H⟩
 obtain ⟨r20, r21, c22, hF⟩ := bind2_inv hF
 let E24 : EN := (31, .tup [.agg (m0_instr_Instr r20), vi r21])
 let B25 : EB := (6, [(.top, .int .i64 r20.Op_), (.top, .int .i64 r20.A_), (.top, .int .i64 r20.B_), (.top, .int .i64 r20.C_), (.top, .int .i64 p2)])
 let E27 : EN := (37, .agg [(.top, .int .i64 r20.Op_), (.top, .int .i64 r20.A_), (.top, .int .i64 r20.B_), (.top, .int .i64 r20.C_), (.top, .int .i64 p2)])
 let S43 : St := ⟨[E15, E2, E16, E27], [B25], H⟩
 refine w_regO ⟨[E15, E2, E3, E16], [(6, (m0_instr_Instr r20))], H⟩ ?_ ?_
 refine yr 1 ⟨[(E4 w7), E2, E3, (24, vp w7)], [], H⟩ ?_ (h := (by generalize w7 = qp0; cases qp0 <;> kernel_rfl))
 refine o_eq (congrArg (fun q => (⟨[(0, vp q), E2, E3, (24, vp q)], [], H⟩ : St)) h15) ?_
 refine yr 1 ⟨[E15, E2, E3, E17, E18], [], H⟩ ?_
 refine yr 1 S40 ?_
 refine o_one ⟨[E15, E2, E3, E17, E18, E19, E20], [], H⟩ (yd (X := X) S40 42 V17 0 1 false (.one .bh (.sl 1 (List.map (eI .u32) x16.words_))) (some 27)) ?_
 refine yr 1 S41 ?_
 refine o_one ⟨[E15, E2, E3, E17, E18, E19, E20, E21, E22], [], H⟩ (st_ix (X := X) S41 42 35 1 h19 (eI .u32) .bh (some 29) (by kernel_rfl) (by kernel_rfl) (by kernel_rfl) (by kernel_rfl)) ?_
 refine yr 1 S42 ?_
 refine o_one ⟨[E15, E2, E3, E17, E18, E19, E20, E21, E22, E23, E24], [], H⟩ (yc (some 31) true false S42 (ok_instr_Decode H c22)) ?_
 refine yr 6 ⟨[E15, E2, E3, E16, (7, vi r21), (23, .tup [.agg (m0_instr_Instr r20), vi r21]), E17, E18, E19, E20, E21, E22, E23, E24, (32, .agg (m0_instr_Instr r20)), (33, vi r21)], [(6, (m0_instr_Instr r20))], H⟩ ?_
 exact ye
 refine ysg ⟨[E15, E2, E16], [B25], H⟩ ?_
 refine w_seq ?_
 obtain ⟨r23, r24, c25, hF⟩ := bind2_inv hF
 let E26 : EN := (8, vu r23)
 let E28 : EN := (38, .tup [vu r23, vi r24])
 let E35 : EN := (50, vu r23)
 let S44 : St := ⟨[E15, E2, E26, E30, E31, E32], [], H⟩
 let S45 : St := ⟨[E15, E2, E26, E30, E31, E32, E33, E34, E35], [], H⟩
 let S46 : St := ⟨[E15, E2, E26, E30, E31, E32, E33, E34, E35, E36], [], H⟩
 refine w_regO ⟨[E15, E2, E26, (9, vi r24)], [], H⟩ ?_ ?_
 refine yr 1 S43 ?_
 refine o_one ⟨[E15, E2, E16, E27, E28], [B25], H⟩ (yc (some 38) true false S43 (ok_instr_Encode H c25)) ?_
 refine yr 5 ⟨[E15, E2, E16, E26, (9, vi r24), (36, .tup [vu r23, vi r24]), E27, E28, (39, vu r23), (40, vi r24)], [B25], H⟩ ?_
 exact ye
 refine w_seq ?_
 refine ysg ⟨[E15, E2, E26, (42, vb (r24 != 0))], [], H⟩ ?_
 rcases if_inv hF with ⟨h26, hF⟩ | ⟨h26, hF⟩
 refine yT h26 ⟨[E15], [], H⟩ ?_
 refine w_seq ?_
 obtain ⟨H28, c27, hF⟩ := bind1_inv hF
 refine w_regO ⟨[], [], H28⟩ ?_ ?_
 refine yr 1 ⟨[E15, E29], [], H⟩ ?_
 refine o_one ⟨[E15, E29, (44, vN)], [], H28⟩ (yc (some 44) false false (⟨[E15, E29], [], H⟩ : St) (ok_emit_Code_Fail H c27)) ?_
 exact ye
 refine w_ret ?_
 obtain e0 := some1_inv hF
 subst e0
 exact yi (vN)
 refine yF h26 ⟨[E15, E2, E26], [], H⟩ ?_
 refine w_skip ?_
 obtain ⟨x29, h30, hF⟩ := bind1_inv hF
 obtain ⟨v31, h32, hF⟩ := bind1_inv hF
 let S47 : St := ⟨[E15, E2, E26, E30, E31, E32, E33, E34, E35, E36], [], (hset H i13 o14 [((.own 1), .sl 1 (List.map (eI .u32) v31)), ((.own 1), .sl 4 (List.map e_api_Fixup x16.fixups_)), ((.own 1), .sl 2 (List.map e_api_Segment x16.marks_.list_)), ((.own 1), .sl 1 (List.map (eI .i64) x16.pads_)), ((.own 1), .sl 1 (List.map (eI .i64) x16.active_)), (.top, .int .i64 x16.depth_), (.top, .int .i64 x16.most_), (.top, .int .i64 x16.err_)])⟩
 obtain ⟨H33, h34, hF⟩ := bnd_inv hF
 have V35 : hget H33 i13 o14 8 = some (o_emit_Code (T_emit_Code.mk v31 x16.fixups_ x16.marks_ x16.pads_ x16.active_ x16.depth_ x16.most_ x16.err_)) := by rw [← h34]; exact hset_get V17 rfl
 refine w_regO ⟨[], [], H33⟩ ?_ ?_
 refine yr 3 S44 ?_
 refine o_one ⟨[E15, E2, E26, E30, E31, E32, E33], [], H⟩ (st_ldP (X := X) S44 42 V17 0 0 1 (List.map (eI .u32) x16.words_) (some 48) (by kernel_rfl) (by kernel_rfl) (by kernel_rfl) (by kernel_rfl) (by kernel_rfl) (by kernel_rfl)) ?_
 refine yr 2 S45 ?_
 refine o_one S46 (st_ixA (X := X) S45 42 35 1 h30 (eI .u32) (.obj i13 o14) 0 (List.map (eI .u32) x16.words_).length 0 (some 51) (by kernel_rfl) (by kernel_rfl) (by kernel_rfl) (at_obj (k := 0) (c := ((.own 1), .sl 1 (List.map (eI .u32) x16.words_))) V17 (by kernel_rfl) (by kernel_rfl)) rfl (List.length_map _) (by kernel_rfl)) ?_
 refine o_one S47 (st_stE (X := X) S46 S47 ⟨false, []⟩ 35 (.obj i13 o14) (Int.toNat p1) 0 1 0 (List.map (eI .u32) x16.words_) [.int .u32 x29] ((eI .u32) r23) (List.map (eI .u32) v31) 1 (vu r23) (by kernel_rfl) (by kernel_rfl) (by kernel_rfl) (by kernel_rfl) (by kernel_rfl) (at_obj (k := 0) (c := ((.own 1), .sl 1 (List.map (eI .u32) x16.words_))) V17 (by kernel_rfl) (by kernel_rfl)) (el_at h30) (by kernel_rfl) (by kernel_rfl) (el_put h32) (root_obj (k := 0) V17 (by kernel_rfl) (hset_sub0 (k := 0) V17 (Nat.le_of_ble_eq_true rfl))) (by kernel_rfl)) ?_
 refine o_eq (congrArg (fun q => (⟨[E15, E2, E26, E30, E31, E32, E33, E34, E35, E36], [], q⟩ : St)) h34) ?_
 exact ye
 obtain e0 := some1_inv hF
 subst e0
 exact yi (vN)
noncomputable def emit_Code_Back (H : Heap) (p0 : Ptr) (p1 : Int) (p2 : Int) (p3 : Int) : Option (Heap) :=
  bind2 (emit_Code_Put H p0 (T_instr_Instr.mk p1 p2 0 0 0)) fun H3 r1 =>
  bind1 (emit_Code_set H3 p0 r1 (IntKind.wrap .i64 ((IntKind.wrap .i64 (p3 - r1)) - 1))) fun H5 =>
  some H5
theorem ok_emit_Code_Back (H : Heap) {p0 : Ptr} {p1 : Int} {p2 : Int} {p3 : Int} {Hr : Heap} (hF : emit_Code_Back H p0 p1 p2 p3 = some Hr) : evS X 82 [.one .top (Ptr.av p0), .one .top (.int .i64 p1), .one .top (.int .i64 p2), .one .top (.int .i64 p3)] H = some (.tup [], Hr) := by
 let E1 : Ptr → EN := fun z0 => (0, vp z0)
 let E2 : EN := (1, vi p1)
 let E3 : EN := (2, vi p2)
 let E4 : EN := (3, vi p3)
 let E6 : EN := (10, vi p1)
 let E7 : EN := (11, vi p2)
 let E8 : EN := (12, .agg [(.top, .int .i64 p1), (.top, .int .i64 p2), (.top, .int .i64 0), (.top, .int .i64 0), (.top, .int .i64 0)])
 let S11 : Ptr → St := fun z0 => ⟨[(E1 z0), E2, E3, E4, (9, vp z0), E6, E7, E8], [], H⟩
 refine yf Try.func82 false ⟨[(E1 p0), E2, E3, E4], [], H⟩ ?_
 unfold emit_Code_Back at hF
 refine w_seq ?_
 obtain ⟨H3, r1, c2, hF⟩ := bind2_inv hF
 let E5 : EN := (8, vi r1)
 let E9 : EN := (18, vi (IntKind.wrap .i64 (p3 - r1)))
 let E10 : EN := (19, vi (IntKind.wrap .i64 ((IntKind.wrap .i64 (p3 - r1)) - 1)))
 let S12 : Ptr → St := fun z0 => ⟨[(E1 z0), E4, E5, (14, vp z0), (15, vi r1), (16, vi p3), (17, vi r1), E9, E10], [], H3⟩
 refine w_regO ⟨[(E1 p0), E4, E5], [], H3⟩ ?_ ?_
 refine yr 4 (S11 p0) ?_ (h := (by generalize p0 = qp0; cases qp0 <;> kernel_rfl))
 refine o_one ⟨[(E1 p0), E2, E3, E4, (9, vp p0), E6, E7, E8, (13, vi r1)], [], H3⟩ (yc (some 13) false false (S11 p0) (ok_emit_Code_Put H c2) (hr := (by generalize p0 = qp0; cases qp0 <;> kernel_rfl)) (hs := (by generalize p0 = qp0; cases qp0 <;> kernel_rfl))) ?_
 refine yr 1 ⟨[(E1 p0), E2, E3, E4, E5, (9, vp p0), E6, E7, E8, (13, vi r1)], [], H3⟩ ?_ (h := (by generalize p0 = qp0; cases qp0 <;> kernel_rfl))
 exact ye
 obtain ⟨H5, c4, hF⟩ := bind1_inv hF
 refine w_regO ⟨[], [], H5⟩ ?_ ?_
 refine yr 6 (S12 p0) ?_ (h := (by generalize p0 = qp0; cases qp0 <;> kernel_rfl))
 refine o_one ⟨[(E1 p0), E4, E5, (14, vp p0), (15, vi r1), (16, vi p3), (17, vi r1), E9, E10, (20, vN)], [], H5⟩ (yc (some 20) false false (S12 p0) (ok_emit_Code_set H3 c4) (hr := (by generalize p0 = qp0; cases qp0 <;> kernel_rfl)) (hs := (by generalize p0 = qp0; cases qp0 <;> kernel_rfl))) ?_
 exact ye
 obtain e0 := some1_inv hF
 subst e0
 exact yi (vN)
noncomputable def emit_Code_Land (H : Heap) (p0 : Ptr) (p1 : Int) : Option (Heap) :=
  bind1 (emit_Code_Here H p0) fun r1 =>
  bind1 (emit_Code_set H p0 p1 (IntKind.wrap .i64 ((IntKind.wrap .i64 (r1 - p1)) - 1))) fun H4 =>
  some H4
theorem ok_emit_Code_Land (H : Heap) {p0 : Ptr} {p1 : Int} {Hr : Heap} (hF : emit_Code_Land H p0 p1 = some Hr) : evS X 48 [.one .top (Ptr.av p0), .one .top (.int .i64 p1)] H = some (.tup [], Hr) := by
 let E1 : Ptr → EN := fun z0 => (0, vp z0)
 let E2 : EN := (1, vi p1)
 let E3 : Ptr → EN := fun z0 => (4, vp z0)
 let E4 : EN := (5, vi p1)
 let E5 : Ptr → EN := fun z0 => (6, vp z0)
 let S8 : Ptr → St := fun z0 => ⟨[(E1 z0), E2, (E3 z0), E4, (E5 z0)], [], H⟩
 refine yf Try.func48 false ⟨[(E1 p0), E2], [], H⟩ ?_
 unfold emit_Code_Land at hF
 obtain ⟨r1, c2, hF⟩ := bind1_inv hF
 let E6 : EN := (9, vi (IntKind.wrap .i64 (r1 - p1)))
 let E7 : EN := (10, vi (IntKind.wrap .i64 ((IntKind.wrap .i64 (r1 - p1)) - 1)))
 let S9 : Ptr → St := fun z0 => ⟨[(E1 z0), E2, (E3 z0), E4, (E5 z0), (7, vi r1), (8, vi p1), E6, E7], [], H⟩
 obtain ⟨H4, c3, hF⟩ := bind1_inv hF
 refine w_regO ⟨[], [], H4⟩ ?_ ?_
 refine yr 3 (S8 p0) ?_ (h := (by generalize p0 = qp0; cases qp0 <;> kernel_rfl))
 refine o_one ⟨[(E1 p0), E2, (E3 p0), E4, (E5 p0), (7, vi r1)], [], H⟩ (yc (some 7) true false (S8 p0) (ok_emit_Code_Here H c2) (hr := (by generalize p0 = qp0; cases qp0 <;> kernel_rfl)) (hs := (by generalize p0 = qp0; cases qp0 <;> kernel_rfl))) ?_
 refine yr 3 (S9 p0) ?_ (h := (by generalize p0 = qp0; cases qp0 <;> kernel_rfl))
 refine o_one ⟨[(E1 p0), E2, (E3 p0), E4, (E5 p0), (7, vi r1), (8, vi p1), E6, E7, (11, vN)], [], H4⟩ (yc (some 11) false false (S9 p0) (ok_emit_Code_set H c3) (hr := (by generalize p0 = qp0; cases qp0 <;> kernel_rfl)) (hs := (by generalize p0 = qp0; cases qp0 <;> kernel_rfl))) ?_
 exact ye
 obtain e0 := some1_inv hF
 subst e0
 exact yi (vN)
end Go.Proofs.Abs
