/- The law ItemOuts: whatever the input, it answers true. No conditions. (Part ItemOutsF3 of its proof.) -/
import Derived.Test.YtjheniapmdcelaaItemOutsF2
set_option linter.unusedVariables false
set_option linter.unusedSimpArgs false
set_option linter.unusedSectionVars false
/- Printed by gen (walk.py). -/
namespace Go.Proofs.Abs
open Go Go.Proofs
set_option linter.unusedVariables false
set_option maxRecDepth 100000
set_option maxHeartbeats 0
noncomputable def ref04_do_j1 (j20 : Int) (j21 : T_ref04_Cpu) (j22 : T_ref03_Mem) : Option (T_ref04_Cpu × T_ref03_Mem) :=
  some ((T_ref04_Cpu.mk j21.R_ j20 j21.EPC_ j21.Cause_ j21.State_ j21.Why_ j21.Steps_ j21.Taken_ j21.Out_ j21.Entry_ j21.Vector_ j21.Guard_ j21.Limit_ j21.Input_), j22)
noncomputable def ref04_do_j2 (j28 : Int) (j29 : T_ref04_Cpu) (j30 : T_ref03_Mem) : Option (T_ref04_Cpu × T_ref03_Mem) :=
  ref04_do_j1 j28 j29 j30
noncomputable def ref04_do_j3 (j36 : Int) (j37 : T_ref04_Cpu) (j38 : T_ref03_Mem) : Option (T_ref04_Cpu × T_ref03_Mem) :=
  ref04_do_j2 j36 j37 j38
noncomputable def ref04_do_j4 (j44 : Int) (j45 : T_ref04_Cpu) (j46 : T_ref03_Mem) : Option (T_ref04_Cpu × T_ref03_Mem) :=
  ref04_do_j3 j44 j45 j46
noncomputable def ref04_do_j5 (j52 : Int) (j53 : T_ref04_Cpu) (j54 : T_ref03_Mem) : Option (T_ref04_Cpu × T_ref03_Mem) :=
  ref04_do_j4 j52 j53 j54
noncomputable def ref04_do_j6 (j60 : Int) (j61 : T_ref04_Cpu) (j62 : T_ref03_Mem) : Option (T_ref04_Cpu × T_ref03_Mem) :=
  ref04_do_j5 j60 j61 j62
noncomputable def ref04_do_j7 (j74 : Int) (j75 : T_ref04_Cpu) (j76 : T_ref03_Mem) : Option (T_ref04_Cpu × T_ref03_Mem) :=
  ref04_do_j6 j74 j75 j76
noncomputable def ref04_do_j8 (p1 : T_ref03_Mem) (j84 : Int) (j85 : T_ref04_Cpu) : Option (T_ref04_Cpu × T_ref03_Mem) :=
  ref04_do_j7 j84 j85 p1
noncomputable def ref04_do_j9 (p1 : T_ref03_Mem) (p0 : T_ref04_Cpu) (j87 : Int) : Option (T_ref04_Cpu × T_ref03_Mem) :=
  ref04_do_j8 p1 j87 p0
noncomputable def ref04_do_j10 (p1 : T_ref03_Mem) (j89 : Int) (j90 : T_ref04_Cpu) : Option (T_ref04_Cpu × T_ref03_Mem) :=
  ref04_do_j8 p1 j89 j90
noncomputable def ref04_do_j11 (p1 : T_ref03_Mem) (p0 : T_ref04_Cpu) (j92 : Int) : Option (T_ref04_Cpu × T_ref03_Mem) :=
  ref04_do_j10 p1 j92 p0
noncomputable def ref04_do_j12 (p1 : T_ref03_Mem) (p0 : T_ref04_Cpu) (p2 : T_ref02_Instr) (j94 : T_ref04_Cpu) : Option (T_ref04_Cpu × T_ref03_Mem) :=
  ref04_do_j10 p1 (IntKind.wrap .u32 ((IntKind.wrap .u32 (p0.PC_ + 4)) + (IntKind.wrap .u32 (4 * (IntKind.wrap .u32 p2.Imm_))))) j94
noncomputable def ref04_do  (p0 : T_ref04_Cpu) (p1 : T_ref03_Mem) (p2 : T_ref02_Instr) : Option (T_ref04_Cpu × T_ref03_Mem) :=
  bind1 (ga p0.R_ p2.A_) fun v1 =>
  bind1 (ga p0.R_ p2.B_) fun v3 =>
  if ((decide (p2.Op_ ≥ 6)) && (decide (p2.Op_ ≤ 17))) = true then (bind1 (ga p0.R_ p2.C_) fun v7 =>
  bind2 (ref04_reckon p2.Op_ v3 v7) fun r9 r10 =>
  if (!r10) = true then (bind1 (ref04_trap p0 3) fun r13 =>
  some (r13, p1))
  else (bind1 (ga p0.R_ p2.A_) fun v15 =>
  bind1 (sa p0.R_ p2.A_ r9) fun v17 =>
  some ((T_ref04_Cpu.mk v17 (IntKind.wrap .u32 (p0.PC_ + 4)) p0.EPC_ p0.Cause_ p0.State_ p0.Why_ p0.Steps_ p0.Taken_ p0.Out_ p0.Entry_ p0.Vector_ p0.Guard_ p0.Limit_ p0.Input_), p1)))
  else (if (p2.Op_ == 1) = true then (some ((T_ref04_Cpu.mk p0.R_ p0.PC_ p0.EPC_ p0.Cause_ 1 p0.Why_ p0.Steps_ p0.Taken_ p0.Out_ p0.Entry_ p0.Vector_ p0.Guard_ p0.Limit_ p0.Input_), p1))
  else (if (p2.Op_ == 2) = true then (bind1 (ga p0.R_ p2.A_) fun v24 =>
  bind1 (sa p0.R_ p2.A_ (IntKind.wrap .u32 p2.Imm_)) fun v26 =>
  ref04_do_j1 (IntKind.wrap .u32 (p0.PC_ + 4)) (T_ref04_Cpu.mk v26 p0.PC_ p0.EPC_ p0.Cause_ p0.State_ p0.Why_ p0.Steps_ p0.Taken_ p0.Out_ p0.Entry_ p0.Vector_ p0.Guard_ p0.Limit_ p0.Input_) p1)
  else (if (p2.Op_ == 3) = true then (bind1 (ga p0.R_ p2.A_) fun v32 =>
  bind1 (sa p0.R_ p2.A_ (IntKind.wrap .u32 ((IntKind.wrap .u32 p2.Imm_) * 65536))) fun v34 =>
  ref04_do_j2 (IntKind.wrap .u32 (p0.PC_ + 4)) (T_ref04_Cpu.mk v34 p0.PC_ p0.EPC_ p0.Cause_ p0.State_ p0.Why_ p0.Steps_ p0.Taken_ p0.Out_ p0.Entry_ p0.Vector_ p0.Guard_ p0.Limit_ p0.Input_) p1)
  else (if (p2.Op_ == 4) = true then (bind1 (ga p0.R_ p2.A_) fun v40 =>
  bind1 (sa p0.R_ p2.A_ (bitsOf .or .u32 v3 (IntKind.wrap .u32 p2.Imm_))) fun v42 =>
  ref04_do_j3 (IntKind.wrap .u32 (p0.PC_ + 4)) (T_ref04_Cpu.mk v42 p0.PC_ p0.EPC_ p0.Cause_ p0.State_ p0.Why_ p0.Steps_ p0.Taken_ p0.Out_ p0.Entry_ p0.Vector_ p0.Guard_ p0.Limit_ p0.Input_) p1)
  else (if (p2.Op_ == 5) = true then (bind1 (ga p0.R_ p2.A_) fun v48 =>
  bind1 (sa p0.R_ p2.A_ (IntKind.wrap .u32 (v3 + (IntKind.wrap .u32 p2.Imm_)))) fun v50 =>
  ref04_do_j4 (IntKind.wrap .u32 (p0.PC_ + 4)) (T_ref04_Cpu.mk v50 p0.PC_ p0.EPC_ p0.Cause_ p0.State_ p0.Why_ p0.Steps_ p0.Taken_ p0.Out_ p0.Entry_ p0.Vector_ p0.Guard_ p0.Limit_ p0.Input_) p1)
  else (if (p2.Op_ == 34) = true then (bind1 (ga p0.R_ p2.A_) fun v56 =>
  bind1 (sa p0.R_ p2.A_ (bitsOf .xor .u32 v3 (IntKind.wrap .u32 p2.Imm_))) fun v58 =>
  ref04_do_j5 (IntKind.wrap .u32 (p0.PC_ + 4)) (T_ref04_Cpu.mk v58 p0.PC_ p0.EPC_ p0.Cause_ p0.State_ p0.Why_ p0.Steps_ p0.Taken_ p0.Out_ p0.Entry_ p0.Vector_ p0.Guard_ p0.Limit_ p0.Input_) p1)
  else (if (p2.Op_ == 18) = true then (bind2 (ref03_Load p1 (IntKind.wrap .u32 (v3 + (IntKind.wrap .u32 p2.Imm_)))) fun r64 r65 =>
  if (r65 != 0) = true then (bind1 (ref04_fault p0 r65) fun r68 =>
  some (r68, p1))
  else (bind1 (ga p0.R_ p2.A_) fun v70 =>
  bind1 (sa p0.R_ p2.A_ r64) fun v72 =>
  ref04_do_j6 (IntKind.wrap .u32 (p0.PC_ + 4)) (T_ref04_Cpu.mk v72 p0.PC_ p0.EPC_ p0.Cause_ p0.State_ p0.Why_ p0.Steps_ p0.Taken_ p0.Out_ p0.Entry_ p0.Vector_ p0.Guard_ p0.Limit_ p0.Input_) p1))
  else (if (p2.Op_ == 19) = true then (bind2 (ref03_Store p1 (IntKind.wrap .u32 (v3 + (IntKind.wrap .u32 p2.Imm_))) v1) fun r78 r79 =>
  if (r79 != 0) = true then (bind1 (ref04_fault p0 r79) fun r82 =>
  some (r82, p1))
  else (ref04_do_j7 (IntKind.wrap .u32 (p0.PC_ + 4)) p0 r78))
  else (if (p2.Op_ == 20) = true then (if (v1 == 0) = true then (ref04_do_j9 p1 p0 (IntKind.wrap .u32 ((IntKind.wrap .u32 (p0.PC_ + 4)) + (IntKind.wrap .u32 (4 * (IntKind.wrap .u32 p2.Imm_))))))
  else (ref04_do_j9 p1 p0 (IntKind.wrap .u32 (p0.PC_ + 4))))
  else (if (p2.Op_ == 21) = true then (if (v1 != 0) = true then (ref04_do_j11 p1 p0 (IntKind.wrap .u32 ((IntKind.wrap .u32 (p0.PC_ + 4)) + (IntKind.wrap .u32 (4 * (IntKind.wrap .u32 p2.Imm_))))))
  else (ref04_do_j11 p1 p0 (IntKind.wrap .u32 (p0.PC_ + 4))))
  else (if (p2.Op_ == 22) = true then (ref04_do_j12 p1 p0 p2 p0)
  else (if (p2.Op_ == 23) = true then (ref04_do_j12 p1 p0 p2 (T_ref04_Cpu.mk (arrL [(p0.R_.g 0), (p0.R_.g 1), (p0.R_.g 2), (p0.R_.g 3), (p0.R_.g 4), (p0.R_.g 5), (p0.R_.g 6), (p0.R_.g 7), (p0.R_.g 8), (p0.R_.g 9), (p0.R_.g 10), (p0.R_.g 11), (p0.R_.g 12), (p0.R_.g 13), (IntKind.wrap .u32 (p0.PC_ + 4)), (p0.R_.g 15)] : Arr 16 Int) p0.PC_ p0.EPC_ p0.Cause_ p0.State_ p0.Why_ p0.Steps_ p0.Taken_ p0.Out_ p0.Entry_ p0.Vector_ p0.Guard_ p0.Limit_ p0.Input_))
  else (bind1 (ref04_others p0 p2 v1) fun r97 =>
  some (r97, p1))))))))))))))
theorem ok_ref04_do (H : Heap) {p0 : T_ref04_Cpu} {p1 : T_ref03_Mem} {p2 : T_ref02_Instr} {ra : T_ref04_Cpu} {rb : T_ref03_Mem} (hF : ref04_do p0 p1 p2 = some (ra, rb)) : evS X 98 [.agg (m1_ref04_Cpu p0), .agg (m0_ref03_Mem p1), .agg (m0_ref02_Instr p2)] H = some (.tup [.agg (m1_ref04_Cpu ra), .agg (m0_ref03_Mem rb)], H) := by
  let E1 : EN := (3, .one .top (.loc 3 0))
  let E2 : EN := (4, .one .top (.loc 4 0))
  let E3 : EN := (5, .one .top (.loc 5 0))
  let E4 : EN := (6, .one .top (.loc 6 0))
  let E5 : EN := (7, .one .top (.loc 7 0))
  let B6 : EB := (3, (m1_ref04_Cpu p0))
  let B7 : EB := (4, (m0_ref03_Mem p1))
  let B8 : EB := (5, (m0_ref02_Instr p2))
  let B9 : EB := (6, (List.replicate 19 (.top, .int .u32 0) ++ List.replicate 4 (.top, .int .i64 0) ++ [((.own 1), .sl 2 (List.map e_api_Event ([] : List T_api_Event)))] ++ List.replicate 4 (.top, .int .u32 0) ++ [((.own 1), .sl 1 (List.map (eI .i32) ([] : List Int)))]))
  let B10 : EB := (7, (List.replicate 5 (.top, .int .u32 0) ++ [((.own 1), .sl 1 (List.map (eI .u32) ([] : List Int)))]))
  let E13 : EN := (20, .one .top (.loc 5 1))
  let E14 : EN := (21, .one .top (.int .i64 p2.A_))
  let E15 : EN := (22, .one .top (.loc 3 0))
  let E16 : EN := (23, .one .top (.loc 3 (0 + Int.toNat p2.A_)))
  let E18 : EN := (25, .one .top (.loc 5 2))
  let E19 : EN := (26, .one .top (.int .i64 p2.B_))
  let E20 : EN := (27, .one .top (.loc 3 0))
  let E21 : EN := (28, .one .top (.loc 3 (0 + Int.toNat p2.B_)))
  let E23 : EN := (10, .one .top (.int .u32 (IntKind.wrap .u32 p2.Imm_)))
  let E24 : EN := (11, .one .top (.int .u32 p0.PC_))
  let E25 : EN := (12, .one .top (.int .u32 (IntKind.wrap .u32 (p0.PC_ + 4))))
  let E26 : EN := (13, .one .top (.int .u32 (IntKind.wrap .u32 ((IntKind.wrap .u32 (p0.PC_ + 4)) + (IntKind.wrap .u32 (4 * (IntKind.wrap .u32 p2.Imm_)))))))
  let E27 : EN := (42, .one .top (.loc 5 0))
  let E28 : EN := (43, .one .top (.int .i64 p2.Op_))
  let E31 : EN := (51, .one .top (.loc 5 0))
  let E32 : EN := (52, .one .top (.int .i64 p2.Op_))
  let E34 : EN := (54, .one .top (.loc 5 3))
  let E35 : EN := (55, .one .top (.int .i64 p2.C_))
  let E36 : EN := (56, .one .top (.loc 3 0))
  let E37 : EN := (57, .one .top (.loc 3 (0 + Int.toNat p2.C_)))
  let B44 : EB := (7, (m0_ref03_Mem p1))
  let E45 : EN := (64, .agg (m1_ref04_Cpu p0))
  let E46 : EN := (66, .agg (m0_ref03_Mem p1))
  let E49 : EN := (67, .one .top (.loc 5 1))
  let E50 : EN := (68, .one .top (.int .i64 p2.A_))
  let E52 : EN := (70, .one .top (.loc 3 0))
  let E53 : EN := (71, .one .top (.loc 3 (0 + Int.toNat p2.A_)))
  let E57 : EN := (75, .agg (m0_ref03_Mem p1))
  let E58 : EN := (77, .one .top (.int .i64 p2.Op_))
  let B59 : EB := (3, (arM .u32 16 p0.R_ ++ [(.top, .int .u32 p0.PC_), (.top, .int .u32 p0.EPC_), (.top, .int .u32 p0.Cause_), (.top, .int .i64 1), (.top, .int .i64 p0.Why_), (.top, .int .i64 p0.Steps_), (.top, .int .i64 p0.Taken_), ((.own 0), .sl 2 (List.map e_api_Event p0.Out_)), (.top, .int .u32 p0.Entry_), (.top, .int .u32 p0.Vector_), (.top, .int .u32 p0.Guard_), (.top, .int .u32 p0.Limit_), ((.own 0), .sl 1 (List.map (eI .i32) p0.Input_))]))
  let B60 : EB := (6, (arM .u32 16 p0.R_ ++ [(.top, .int .u32 p0.PC_), (.top, .int .u32 p0.EPC_), (.top, .int .u32 p0.Cause_), (.top, .int .i64 1), (.top, .int .i64 p0.Why_), (.top, .int .i64 p0.Steps_), (.top, .int .i64 p0.Taken_), ((.own 0), .sl 2 (List.map e_api_Event p0.Out_)), (.top, .int .u32 p0.Entry_), (.top, .int .u32 p0.Vector_), (.top, .int .u32 p0.Guard_), (.top, .int .u32 p0.Limit_), ((.own 0), .sl 1 (List.map (eI .i32) p0.Input_))]))
  let E61 : EN := (86, .agg (arM .u32 16 p0.R_ ++ [(.top, .int .u32 p0.PC_), (.top, .int .u32 p0.EPC_), (.top, .int .u32 p0.Cause_), (.top, .int .i64 1), (.top, .int .i64 p0.Why_), (.top, .int .i64 p0.Steps_), (.top, .int .i64 p0.Taken_), ((.own 0), .sl 2 (List.map e_api_Event p0.Out_)), (.top, .int .u32 p0.Entry_), (.top, .int .u32 p0.Vector_), (.top, .int .u32 p0.Guard_), (.top, .int .u32 p0.Limit_), ((.own 0), .sl 1 (List.map (eI .i32) p0.Input_))]))
  let E62 : EN := (87, .agg (m0_ref03_Mem p1))
  let E69 : EN := (90, .one .top (.loc 5 1))
  let E70 : EN := (91, .one .top (.int .i64 p2.A_))
  let E71 : EN := (92, .one .top (.int .u32 (IntKind.wrap .u32 p2.Imm_)))
  let E72 : EN := (93, .one .top (.loc 3 0))
  let E73 : EN := (94, .one .top (.loc 3 (0 + Int.toNat p2.A_)))
  let E75 : EN := (97, .one .top (.loc 5 1))
  let E76 : EN := (98, .one .top (.int .i64 p2.A_))
  let E77 : EN := (99, .one .top (.int .u32 (IntKind.wrap .u32 p2.Imm_)))
  let E78 : EN := (100, .one .top (.int .u32 (IntKind.wrap .u32 ((IntKind.wrap .u32 p2.Imm_) * 65536))))
  let E79 : EN := (101, .one .top (.loc 3 0))
  let E80 : EN := (102, .one .top (.loc 3 (0 + Int.toNat p2.A_)))
  let E82 : EN := (105, .one .top (.loc 5 1))
  let E83 : EN := (106, .one .top (.int .i64 p2.A_))
  let E85 : EN := (108, .one .top (.int .u32 (IntKind.wrap .u32 p2.Imm_)))
  let E87 : EN := (110, .one .top (.loc 3 0))
  let E88 : EN := (111, .one .top (.loc 3 (0 + Int.toNat p2.A_)))
  let E90 : EN := (114, .one .top (.loc 5 1))
  let E91 : EN := (115, .one .top (.int .i64 p2.A_))
  let E93 : EN := (117, .one .top (.int .u32 (IntKind.wrap .u32 p2.Imm_)))
  let E95 : EN := (119, .one .top (.loc 3 0))
  let E96 : EN := (120, .one .top (.loc 3 (0 + Int.toNat p2.A_)))
  let E98 : EN := (123, .one .top (.loc 5 1))
  let E99 : EN := (124, .one .top (.int .i64 p2.A_))
  let E101 : EN := (126, .one .top (.int .u32 (IntKind.wrap .u32 p2.Imm_)))
  let E103 : EN := (128, .one .top (.loc 3 0))
  let E104 : EN := (129, .one .top (.loc 3 (0 + Int.toNat p2.A_)))
  let E107 : EN := (133, .agg (m0_ref03_Mem p1))
  let E109 : EN := (135, .one .top (.int .u32 (IntKind.wrap .u32 p2.Imm_)))
  let E113 : EN := (142, .agg (m1_ref04_Cpu p0))
  let E115 : EN := (145, .agg (m0_ref03_Mem p1))
  let E118 : EN := (146, .one .top (.loc 5 1))
  let E119 : EN := (147, .one .top (.int .i64 p2.A_))
  let E121 : EN := (149, .one .top (.loc 3 0))
  let E122 : EN := (150, .one .top (.loc 3 (0 + Int.toNat p2.A_)))
  let E123 : EN := (18, .one .top (.loc 18 0))
  let E126 : EN := (154, .agg (m0_ref03_Mem p1))
  let E128 : EN := (156, .one .top (.int .u32 (IntKind.wrap .u32 p2.Imm_)))
  let E133 : EN := (164, .agg (m1_ref04_Cpu p0))
  let E135 : EN := (167, .agg (m0_ref03_Mem p1))
  let E137 : EN := (12, .one .top (.int .u32 (IntKind.wrap .u32 ((IntKind.wrap .u32 (p0.PC_ + 4)) + (IntKind.wrap .u32 (4 * (IntKind.wrap .u32 p2.Imm_)))))))
  let B138 : EB := (3, (arM .u32 14 p0.R_ ++ [(.top, .int .u32 (IntKind.wrap .u32 (p0.PC_ + 4))), (.top, .int .u32 (p0.R_.g 15)), (.top, .int .u32 p0.PC_), (.top, .int .u32 p0.EPC_), (.top, .int .u32 p0.Cause_), (.top, .int .i64 p0.State_), (.top, .int .i64 p0.Why_), (.top, .int .i64 p0.Steps_), (.top, .int .i64 p0.Taken_), ((.own 0), .sl 2 (List.map e_api_Event p0.Out_)), (.top, .int .u32 p0.Entry_), (.top, .int .u32 p0.Vector_), (.top, .int .u32 p0.Guard_), (.top, .int .u32 p0.Limit_), ((.own 0), .sl 1 (List.map (eI .i32) p0.Input_))]))
  let E140 : EN := (78, .agg (m1_ref04_Cpu p0))
  let E141 : EN := (79, .agg (m0_ref02_Instr p2))
  let E143 : EN := (82, .agg (m0_ref03_Mem p1))
  let S145 : St := ⟨[E1, E2, E3, E4, E5, E13, E14, E15], [B6, B7, B8, B9, B10], H⟩
  let S146 : St := ⟨[E1, E2, E3, E4, E5, E13, E14, E15, E16], [B6, B7, B8, B9, B10], H⟩
  let S153 : St := ⟨[E1, E2, E4, E5], [B6, B7, B9, B10], H⟩
  let S154 : St := ⟨[E1, E2, E4, E5, E45, E46], [B6, B7, B9, B10], H⟩
  let S158 : St := ⟨[E1, E2, E3, E4, E5, E23, E25], [B6, B7, B8, B9, B10], H⟩
  let S159 : St := ⟨[E1, E2, E3, E4, E5, E23, E25, E69, E70, E71, E72], [B6, B7, B8, B9, B10], H⟩
  let S160 : St := ⟨[E1, E2, E3, E4, E5, E23, E25, E69, E70, E71, E72, E73], [B6, B7, B8, B9, B10], H⟩
  let S161 : St := ⟨[E1, E2, E3, E4, E5, E23, E25, E75, E76, E77, E78, E79], [B6, B7, B8, B9, B10], H⟩
  let S162 : St := ⟨[E1, E2, E3, E4, E5, E23, E25, E75, E76, E77, E78, E79, E80], [B6, B7, B8, B9, B10], H⟩
  let S178 : St := ⟨[E1, E2, E4, E5, E26], [B6, B7, B9, B10], H⟩
  let S179 : St := ⟨[E1, E2, E4, E5, E137], [B6, B7, B9, B10], H⟩
  let S180 : St := ⟨[E1, E2, E4, E5, E25], [B6, B7, B9, B10], H⟩
  refine w_fun Try.func98 rfl (by kernel_rfl) true (by kernel_rfl) (s0 := (⟨[(0, .agg (m1_ref04_Cpu p0)), (1, .agg (m0_ref03_Mem p1)), (2, .agg (m0_ref02_Instr p2))], [], H⟩ : St)) (by kernel_rfl) ?_
  unfold ref04_do at hF
  refine w_seq ?_
  refine w_reg ⟨[E1, E2, E3, E4, E5], [B6, B7, B8, B9, B10], H⟩ (by kernel_rfl) ?_
  refine w_seq ?_
  obtain ⟨v1, h2, hF⟩ := bind1_inv hF
  let E11 : EN := (8, .one .top (.int .u32 v1))
  let E17 : EN := (24, .one .top (.int .u32 v1))
  let E130 : EN := (158, .one .top (.int .u32 v1))
  let E142 : EN := (80, .one .top (.int .u32 v1))
  let S147 : St := ⟨[E1, E2, E3, E4, E5, E13, E14, E15, E16, E17, E18, E19, E20], [B6, B7, B8, B9, B10], H⟩
  let S148 : St := ⟨[E1, E2, E3, E4, E5, E13, E14, E15, E16, E17, E18, E19, E20, E21], [B6, B7, B8, B9, B10], H⟩
  let S176 : St := ⟨[E1, E2, E3, E4, E5, E11, E24, E25, E26, E58], [B6, B7, B8, B9, B10], H⟩
  let S177 : St := ⟨[E1, E2, E4, E5, E11, E25, E26], [B6, B7, B9, B10], H⟩
  let S181 : St := ⟨[E1, E2, E3, E4, E5, E11, E24, E26, E58], [B6, B7, B8, B9, B10], H⟩
  let S182 : St := ⟨[E1, E2, E3, E4, E5, E11, E140, E141, E142, E143], [B6, B7, B8, B9, B10], H⟩
  obtain ⟨v3, h4, hF⟩ := bind1_inv hF
  let E12 : EN := (9, .one .top (.int .u32 v3))
  let E22 : EN := (29, .one .top (.int .u32 v3))
  let E33 : EN := (53, .one .top (.int .u32 v3))
  let E84 : EN := (107, .one .top (.int .u32 v3))
  let E86 : EN := (109, .one .top (.int .u32 (bitsOf .or .u32 v3 (IntKind.wrap .u32 p2.Imm_))))
  let E92 : EN := (116, .one .top (.int .u32 v3))
  let E94 : EN := (118, .one .top (.int .u32 (IntKind.wrap .u32 (v3 + (IntKind.wrap .u32 p2.Imm_)))))
  let E100 : EN := (125, .one .top (.int .u32 v3))
  let E102 : EN := (127, .one .top (.int .u32 (bitsOf .xor .u32 v3 (IntKind.wrap .u32 p2.Imm_))))
  let E108 : EN := (134, .one .top (.int .u32 v3))
  let E110 : EN := (136, .one .top (.int .u32 (IntKind.wrap .u32 (v3 + (IntKind.wrap .u32 p2.Imm_)))))
  let E127 : EN := (155, .one .top (.int .u32 v3))
  let E129 : EN := (157, .one .top (.int .u32 (IntKind.wrap .u32 (v3 + (IntKind.wrap .u32 p2.Imm_)))))
  let S149 : St := ⟨[E1, E2, E3, E4, E5, E11, E12, E23, E24, E25, E26], [B6, B7, B8, B9, B10], H⟩
  let S150 : St := ⟨[E1, E2, E3, E4, E5, E12, E25, E31, E32, E33, E34, E35, E36], [B6, B7, B8, B9, B10], H⟩
  let S151 : St := ⟨[E1, E2, E3, E4, E5, E12, E25, E31, E32, E33, E34, E35, E36, E37], [B6, B7, B8, B9, B10], H⟩
  let S157 : St := ⟨[E1, E2, E3, E4, E5, E11, E12, E23, E24, E25, E26, E58], [B6, B7, B8, B9, B10], H⟩
  let S163 : St := ⟨[E1, E2, E3, E4, E5, E12, E23, E25], [B6, B7, B8, B9, B10], H⟩
  let S164 : St := ⟨[E1, E2, E3, E4, E5, E12, E23, E25, E82, E83, E84, E85, E86, E87], [B6, B7, B8, B9, B10], H⟩
  let S165 : St := ⟨[E1, E2, E3, E4, E5, E12, E23, E25, E82, E83, E84, E85, E86, E87, E88], [B6, B7, B8, B9, B10], H⟩
  let S166 : St := ⟨[E1, E2, E3, E4, E5, E12, E23, E25, E90, E91, E92, E93, E94, E95], [B6, B7, B8, B9, B10], H⟩
  let S167 : St := ⟨[E1, E2, E3, E4, E5, E12, E23, E25, E90, E91, E92, E93, E94, E95, E96], [B6, B7, B8, B9, B10], H⟩
  let S168 : St := ⟨[E1, E2, E3, E4, E5, E12, E23, E25, E98, E99, E100, E101, E102, E103], [B6, B7, B8, B9, B10], H⟩
  let S169 : St := ⟨[E1, E2, E3, E4, E5, E12, E23, E25, E98, E99, E100, E101, E102, E103, E104], [B6, B7, B8, B9, B10], H⟩
  let S170 : St := ⟨[E1, E2, E3, E4, E5, E12, E23, E25, E107, E108, E109, E110], [B6, B7, B8, B9, B10], H⟩
  let S174 : St := ⟨[E1, E2, E4, E5, E11, E12, E23, E25, E126, E127, E128, E129, E130], [B6, B7, B9, B10], H⟩
  refine w_regD (.take 0 (.take 1 (.take 2 (.take 3 (.take 4 (.take 5 (.take 6 (.take 7 (.take 8 (.take 9 (.take 10 (.take 11 .done)))))))))))) (by kernel_rfl) (⟨[E1, E2, E3, E4, E5, E11, E12], [B6, B7, B8, B9, B10], H⟩ : St) ?_ ?_
  refine d_take ⟨[E1, E2, E3, E4, E5, E13], [B6, B7, B8, B9, B10], H⟩ (by kernel_rfl) ?_
  refine d_take ⟨[E1, E2, E3, E4, E5, E13, E14], [B6, B7, B8, B9, B10], H⟩ (by kernel_rfl) ?_
  refine d_take S145 (by kernel_rfl) ?_
  refine d_take S146 (st_ixL (X := X) S145 46 35 16 h2 3 0 (some 23) (by kernel_rfl) (by kernel_rfl) (by kernel_rfl) (by kernel_rfl)) ?_
  refine d_take ⟨[E1, E2, E3, E4, E5, E13, E14, E15, E16, E17], [B6, B7, B8, B9, B10], H⟩ (st_ldL (X := X) S146 35 16 h2 3 0 (arM .u32 16 p0.R_ ++ [(.top, .int .u32 p0.PC_), (.top, .int .u32 p0.EPC_), (.top, .int .u32 p0.Cause_), (.top, .int .i64 p0.State_), (.top, .int .i64 p0.Why_), (.top, .int .i64 p0.Steps_), (.top, .int .i64 p0.Taken_), ((.own 0), .sl 2 (List.map e_api_Event p0.Out_)), (.top, .int .u32 p0.Entry_), (.top, .int .u32 p0.Vector_), (.top, .int .u32 p0.Guard_), (.top, .int .u32 p0.Limit_), ((.own 0), .sl 1 (List.map (eI .i32) p0.Input_))]) (fun q => .int .u32 q) (some 24) (by kernel_rfl) (by kernel_rfl) (by kernel_rfl) (by kernel_rfl) (by kernel_rfl) (by kernel_rfl)) ?_
  refine d_take ⟨[E1, E2, E3, E4, E5, E13, E14, E15, E16, E17, E18], [B6, B7, B8, B9, B10], H⟩ (by kernel_rfl) ?_
  refine d_take ⟨[E1, E2, E3, E4, E5, E13, E14, E15, E16, E17, E18, E19], [B6, B7, B8, B9, B10], H⟩ (by kernel_rfl) ?_
  refine d_take S147 (by kernel_rfl) ?_
  refine d_take S148 (st_ixL (X := X) S147 46 35 16 h4 3 0 (some 28) (by kernel_rfl) (by kernel_rfl) (by kernel_rfl) (by kernel_rfl)) ?_
  refine d_take ⟨[E1, E2, E3, E4, E5, E13, E14, E15, E16, E17, E18, E19, E20, E21, E22], [B6, B7, B8, B9, B10], H⟩ (st_ldL (X := X) S148 35 16 h4 3 0 (arM .u32 16 p0.R_ ++ [(.top, .int .u32 p0.PC_), (.top, .int .u32 p0.EPC_), (.top, .int .u32 p0.Cause_), (.top, .int .i64 p0.State_), (.top, .int .i64 p0.Why_), (.top, .int .i64 p0.Steps_), (.top, .int .i64 p0.Taken_), ((.own 0), .sl 2 (List.map e_api_Event p0.Out_)), (.top, .int .u32 p0.Entry_), (.top, .int .u32 p0.Vector_), (.top, .int .u32 p0.Guard_), (.top, .int .u32 p0.Limit_), ((.own 0), .sl 1 (List.map (eI .i32) p0.Input_))]) (fun q => .int .u32 q) (some 29) (by kernel_rfl) (by kernel_rfl) (by kernel_rfl) (by kernel_rfl) (by kernel_rfl) (by kernel_rfl)) ?_
  refine d_take ⟨[E1, E2, E3, E4, E5, E11, E13, E14, E15, E16, E17, E18, E19, E20, E21, E22], [B6, B7, B8, B9, B10], H⟩ (by kernel_rfl) ?_
  refine d_take ⟨[E1, E2, E3, E4, E5, E11, E12, E13, E14, E15, E16, E17, E18, E19, E20, E21, E22], [B6, B7, B8, B9, B10], H⟩ (by kernel_rfl) ?_
  exact d_end (by kernel_rfl)
  refine w_seq ?_
  refine w_reg ⟨[E1, E2, E3, E4, E5, E11, E12, E23], [B6, B7, B8, B9, B10], H⟩ (by kernel_rfl) ?_
  refine w_seq ?_
  refine w_reg ⟨[E1, E2, E3, E4, E5, E11, E12, E23, E24], [B6, B7, B8, B9, B10], H⟩ (by kernel_rfl) ?_
  refine w_seq ?_
  refine w_reg ⟨[E1, E2, E3, E4, E5, E11, E12, E23, E24, E25], [B6, B7, B8, B9, B10], H⟩ (by kernel_rfl) ?_
  refine w_seq ?_
  refine w_reg S149 (by kernel_rfl) ?_
  refine w_seq ?_
  refine w_seq ?_
  refine w_regO ⟨[E1, E2, E3, E4, E5, E11, E12, E23, E24, E25, E26, (49, .one .top (.bool ((decide (p2.Op_ ≥ 6)) && (decide (p2.Op_ ≤ 17)))))], [B6, B7, B8, B9, B10], H⟩ ?_ ?_
  refine o_run 4 ⟨[E1, E2, E3, E4, E5, E11, E12, E23, E24, E25, E26, E27, E28, (44, .one .top (.bool (decide (p2.Op_ ≥ 6)))), (45, .one .top (.bool (decide (p2.Op_ ≥ 6))))], [B6, B7, B8, B9, B10], H⟩ (by kernel_rfl) (by kernel_rfl) ?_
  rcases bool_cases (decide (p2.Op_ ≥ 6)) with h5 | h5
  refine o_eq (congrArg (fun q => (⟨[E1, E2, E3, E4, E5, E11, E12, E23, E24, E25, E26, E27, E28, (44, .one .top (.bool q)), (45, .one .top (.bool q))], [B6, B7, B8, B9, B10], H⟩ : St)) h5) ?_
  refine o_run 4 ⟨[E1, E2, E3, E4, E5, E11, E12, E23, E24, E25, E26, E27, E28, (44, .one .top (.bool true)), (45, .one .top (.bool true)), (46, .one .top (.loc 5 0)), (47, .one .top (.int .i64 p2.Op_)), (48, .one .top (.bool (decide (p2.Op_ ≤ 17)))), (49, .one .top (.bool (decide (p2.Op_ ≤ 17))))], [B6, B7, B8, B9, B10], H⟩ (by kernel_rfl) (by kernel_rfl) ?_
  refine o_eq2 (congrArg (fun q0 => (⟨[E1, E2, E3, E4, E5, E11, E12, E23, E24, E25, E26, (49, .one .top (.bool q0))], [B6, B7, B8, B9, B10], H⟩ : St)) (show (decide (p2.Op_ ≤ 17)) = ((decide (p2.Op_ ≥ 6)) && (decide (p2.Op_ ≤ 17))) by simp [h5])) ?_
  exact o_end (by kernel_rfl) (by kernel_rfl)
  refine o_eq (congrArg (fun q => (⟨[E1, E2, E3, E4, E5, E11, E12, E23, E24, E25, E26, E27, E28, (44, .one .top (.bool q)), (45, .one .top (.bool q))], [B6, B7, B8, B9, B10], H⟩ : St)) h5) ?_
  refine o_run 4 ⟨[E1, E2, E3, E4, E5, E11, E12, E23, E24, E25, E26, E27, E28, (44, .one .top (.bool false)), (45, .one .top (.bool false)), (46, .tup []), (47, .tup []), (48, .tup []), (49, .one .top (.bool false))], [B6, B7, B8, B9, B10], H⟩ (by kernel_rfl) (by kernel_rfl) ?_
  refine o_eq2 (congrArg (fun q0 => (⟨[E1, E2, E3, E4, E5, E11, E12, E23, E24, E25, E26, (49, .one .top (.bool q0))], [B6, B7, B8, B9, B10], H⟩ : St)) (show false = ((decide (p2.Op_ ≥ 6)) && (decide (p2.Op_ ≤ 17))) by simp [h5])) ?_
  exact o_end (by kernel_rfl) (by kernel_rfl)
  rcases if_inv hF with ⟨h6, hF⟩ | ⟨h6, hF⟩
  refine w_cT (m := .top) h6 (s1 := (⟨[E1, E2, E3, E4, E5, E12, E25], [B6, B7, B8, B9, B10], H⟩ : St)) (by kernel_rfl) (by kernel_rfl) ?_
  refine w_seq ?_
  obtain ⟨v7, h8, hF⟩ := bind1_inv hF
  let E38 : EN := (58, .one .top (.int .u32 v7))
  let S152 : St := ⟨[E1, E2, E3, E4, E5, E12, E25, E31, E32, E33, E34, E35, E36, E37, E38], [B6, B7, B8, B9, B10], H⟩
  obtain ⟨r9, r10, c11, hF⟩ := bind2_inv hF
  let E29 : EN := (14, .one .top (.int .u32 r9))
  let E30 : EN := (15, .one .top (.bool r10))
  let E39 : EN := (59, .tup [.one .top (.int .u32 r9), .one .top (.bool r10)])
  let E40 : EN := (50, .tup [.one .top (.int .u32 r9), .one .top (.bool r10)])
  let E41 : EN := (60, .one .top (.int .u32 r9))
  let E42 : EN := (61, .one .top (.bool r10))
  let E51 : EN := (69, .one .top (.int .u32 r9))
  let S155 : St := ⟨[E1, E2, E3, E4, E5, E25, E29, E49, E50, E51, E52], [B6, B7, B8, B9, B10], H⟩
  let S156 : St := ⟨[E1, E2, E3, E4, E5, E25, E29, E49, E50, E51, E52, E53], [B6, B7, B8, B9, B10], H⟩
  refine w_regD (.take 0 (.take 1 (.take 2 (.take 3 (.take 4 (.take 5 (.take 6 (.last 7 (.last 8 (.take 9 (.take 10 (.take 11 (.take 12 (.take 13 .done)))))))))))))) (by kernel_rfl) (⟨[E1, E2, E3, E4, E5, E25, E29, E30], [B6, B7, B8, B9, B10], H⟩ : St) ?_ ?_
  refine d_take ⟨[E1, E2, E3, E4, E5, E12, E25, E31], [B6, B7, B8, B9, B10], H⟩ (by kernel_rfl) ?_
  refine d_take ⟨[E1, E2, E3, E4, E5, E12, E25, E31, E32], [B6, B7, B8, B9, B10], H⟩ (by kernel_rfl) ?_
  refine d_take ⟨[E1, E2, E3, E4, E5, E12, E25, E31, E32, E33], [B6, B7, B8, B9, B10], H⟩ (by kernel_rfl) ?_
  refine d_take ⟨[E1, E2, E3, E4, E5, E12, E25, E31, E32, E33, E34], [B6, B7, B8, B9, B10], H⟩ (by kernel_rfl) ?_
  refine d_take ⟨[E1, E2, E3, E4, E5, E12, E25, E31, E32, E33, E34, E35], [B6, B7, B8, B9, B10], H⟩ (by kernel_rfl) ?_
  refine d_take S150 (by kernel_rfl) ?_
  refine d_take S151 (st_ixL (X := X) S150 46 35 16 h8 3 0 (some 57) (by kernel_rfl) (by kernel_rfl) (by kernel_rfl) (by kernel_rfl)) ?_
  refine d_last S152 (st_ldL (X := X) S151 35 16 h8 3 0 (arM .u32 16 p0.R_ ++ [(.top, .int .u32 p0.PC_), (.top, .int .u32 p0.EPC_), (.top, .int .u32 p0.Cause_), (.top, .int .i64 p0.State_), (.top, .int .i64 p0.Why_), (.top, .int .i64 p0.Steps_), (.top, .int .i64 p0.Taken_), ((.own 0), .sl 2 (List.map e_api_Event p0.Out_)), (.top, .int .u32 p0.Entry_), (.top, .int .u32 p0.Vector_), (.top, .int .u32 p0.Guard_), (.top, .int .u32 p0.Limit_), ((.own 0), .sl 1 (List.map (eI .i32) p0.Input_))]) (fun q => .int .u32 q) (some 58) (by kernel_rfl) (by kernel_rfl) (by kernel_rfl) (by kernel_rfl) (by kernel_rfl) (by kernel_rfl)) ?_
  refine d_last ⟨[E1, E2, E3, E4, E5, E12, E25, E31, E32, E33, E34, E35, E36, E37, E38, E39], [B6, B7, B8, B9, B10], H⟩ (st_call (d := (some 59)) (fz := false) (pure := true) (own := false) S152 (ok_ref04_reckon H c11) (by kernel_rfl) (by kernel_rfl)) ?_
  refine d_take ⟨[E1, E2, E3, E4, E5, E12, E25, E40, E31, E32, E33, E34, E35, E36, E37, E38, E39], [B6, B7, B8, B9, B10], H⟩ (by kernel_rfl) ?_
  refine d_take ⟨[E1, E2, E3, E4, E5, E12, E25, E40, E31, E32, E33, E34, E35, E36, E37, E38, E39, E41], [B6, B7, B8, B9, B10], H⟩ (by kernel_rfl) ?_
  refine d_take ⟨[E1, E2, E3, E4, E5, E12, E25, E40, E31, E32, E33, E34, E35, E36, E37, E38, E39, E41, E42], [B6, B7, B8, B9, B10], H⟩ (by kernel_rfl) ?_
  refine d_take ⟨[E1, E2, E3, E4, E5, E12, E25, E29, E40, E31, E32, E33, E34, E35, E36, E37, E38, E39, E41, E42], [B6, B7, B8, B9, B10], H⟩ (by kernel_rfl) ?_
  refine d_take ⟨[E1, E2, E3, E4, E5, E12, E25, E29, E30, E40, E31, E32, E33, E34, E35, E36, E37, E38, E39, E41, E42], [B6, B7, B8, B9, B10], H⟩ (by kernel_rfl) ?_
  exact d_end (by kernel_rfl)
  refine w_seq ?_
  refine w_seq ?_
  refine w_reg ⟨[E1, E2, E3, E4, E5, E25, E29, (63, .one .top (.bool (!r10)))], [B6, B7, B8, B9, B10], H⟩ (by kernel_rfl) ?_
  rcases if_inv hF with ⟨h12, hF⟩ | ⟨h12, hF⟩
  refine w_cT (m := .top) h12 (s1 := S153) (by kernel_rfl) (by kernel_rfl) ?_
  refine w_seq ?_
  obtain ⟨r13, c14, hF⟩ := bind1_inv hF
  let B43 : EB := (6, (m1_ref04_Cpu r13))
  let E47 : EN := (65, .agg (m1_ref04_Cpu r13))
  refine w_regD (.take 0 (.take 2 (.last 1 (.last 3 (.last 4 .done))))) (by kernel_rfl) (⟨[E4, E5], [B43, B44], H⟩ : St) ?_ ?_
  refine d_take ⟨[E1, E2, E4, E5, E45], [B6, B7, B9, B10], H⟩ (by kernel_rfl) ?_
  refine d_take S154 (by kernel_rfl) ?_
  refine d_last ⟨[E1, E2, E4, E5, E45, E47, E46], [B6, B7, B9, B10], H⟩ (st_call (d := (some 65)) (fz := false) (pure := true) (own := false) S154 (ok_ref04_trap H c14) (by kernel_rfl) (by kernel_rfl)) ?_
  refine d_last ⟨[E1, E2, E4, E5, E45, E47, E46], [B6, B7, B43, B10], H⟩ (by kernel_rfl) ?_
  refine d_last ⟨[E1, E2, E4, E5, E45, E47, E46], [B6, B7, B43, B44], H⟩ (by kernel_rfl) ?_
  exact d_end (by kernel_rfl)
  refine w_ret ?_
  obtain ⟨e0, e1⟩ := some2_inv hF
  subst e0
  subst e1
  exact fin_pure (v := .tup [.agg (m1_ref04_Cpu r13), .agg (m0_ref03_Mem p1)]) (by kernel_rfl) (by kernel_rfl) rfl (by kernel_rfl)
  refine w_cF (m := .top) h12 (s1 := (⟨[E1, E2, E3, E4, E5, E25, E29], [B6, B7, B8, B9, B10], H⟩ : St)) (by kernel_rfl) (by kernel_rfl) ?_
  refine w_skip ?_
  refine w_seq ?_
  obtain ⟨v15, h16, hF⟩ := bind1_inv hF
  obtain ⟨v17, h18, hF⟩ := bind1_inv hF
  let B48 : EB := (3, (arM .u32 16 v17 ++ [(.top, .int .u32 p0.PC_), (.top, .int .u32 p0.EPC_), (.top, .int .u32 p0.Cause_), (.top, .int .i64 p0.State_), (.top, .int .i64 p0.Why_), (.top, .int .i64 p0.Steps_), (.top, .int .i64 p0.Taken_), ((.own 0), .sl 2 (List.map e_api_Event p0.Out_)), (.top, .int .u32 p0.Entry_), (.top, .int .u32 p0.Vector_), (.top, .int .u32 p0.Guard_), (.top, .int .u32 p0.Limit_), ((.own 0), .sl 1 (List.map (eI .i32) p0.Input_))]))
  let B54 : EB := (3, (arM .u32 16 v17 ++ [(.top, .int .u32 (IntKind.wrap .u32 (p0.PC_ + 4))), (.top, .int .u32 p0.EPC_), (.top, .int .u32 p0.Cause_), (.top, .int .i64 p0.State_), (.top, .int .i64 p0.Why_), (.top, .int .i64 p0.Steps_), (.top, .int .i64 p0.Taken_), ((.own 0), .sl 2 (List.map e_api_Event p0.Out_)), (.top, .int .u32 p0.Entry_), (.top, .int .u32 p0.Vector_), (.top, .int .u32 p0.Guard_), (.top, .int .u32 p0.Limit_), ((.own 0), .sl 1 (List.map (eI .i32) p0.Input_))]))
  let B55 : EB := (6, (arM .u32 16 v17 ++ [(.top, .int .u32 (IntKind.wrap .u32 (p0.PC_ + 4))), (.top, .int .u32 p0.EPC_), (.top, .int .u32 p0.Cause_), (.top, .int .i64 p0.State_), (.top, .int .i64 p0.Why_), (.top, .int .i64 p0.Steps_), (.top, .int .i64 p0.Taken_), ((.own 0), .sl 2 (List.map e_api_Event p0.Out_)), (.top, .int .u32 p0.Entry_), (.top, .int .u32 p0.Vector_), (.top, .int .u32 p0.Guard_), (.top, .int .u32 p0.Limit_), ((.own 0), .sl 1 (List.map (eI .i32) p0.Input_))]))
  let E56 : EN := (74, .agg (arM .u32 16 v17 ++ [(.top, .int .u32 (IntKind.wrap .u32 (p0.PC_ + 4))), (.top, .int .u32 p0.EPC_), (.top, .int .u32 p0.Cause_), (.top, .int .i64 p0.State_), (.top, .int .i64 p0.Why_), (.top, .int .i64 p0.Steps_), (.top, .int .i64 p0.Taken_), ((.own 0), .sl 2 (List.map e_api_Event p0.Out_)), (.top, .int .u32 p0.Entry_), (.top, .int .u32 p0.Vector_), (.top, .int .u32 p0.Guard_), (.top, .int .u32 p0.Limit_), ((.own 0), .sl 1 (List.map (eI .i32) p0.Input_))]))
  refine w_regO ⟨[E1, E2, E4, E5, E25], [B48, B7, B9, B10], H⟩ ?_ ?_
  refine o_run 4 S155 (by kernel_rfl) (by kernel_rfl) ?_
  refine o_one S156 (st_ixL (X := X) S155 46 35 16 h16 3 0 (some 71) (by kernel_rfl) (by kernel_rfl) (by kernel_rfl) (by kernel_rfl)) ?_
  refine o_one ⟨[E1, E2, E3, E4, E5, E25, E29, E49, E50, E51, E52, E53], [B48, B7, B8, B9, B10], H⟩ (st_stL (X := X) S156 35 16 h18 3 0 (arM .u32 16 p0.R_ ++ [(.top, .int .u32 p0.PC_), (.top, .int .u32 p0.EPC_), (.top, .int .u32 p0.Cause_), (.top, .int .i64 p0.State_), (.top, .int .i64 p0.Why_), (.top, .int .i64 p0.Steps_), (.top, .int .i64 p0.Taken_), ((.own 0), .sl 2 (List.map e_api_Event p0.Out_)), (.top, .int .u32 p0.Entry_), (.top, .int .u32 p0.Vector_), (.top, .int .u32 p0.Guard_), (.top, .int .u32 p0.Limit_), ((.own 0), .sl 1 (List.map (eI .i32) p0.Input_))]) (fun q => .int .u32 q) ⟨true, []⟩ (by kernel_rfl) (by kernel_rfl) (by kernel_rfl) (by kernel_rfl) (by kernel_rfl) (fun _ => rfl) (by kernel_rfl)) ?_
  exact o_end (by kernel_rfl) (by kernel_rfl)
  refine w_seq ?_
  refine w_reg ⟨[E1, E2, E4, E5], [B54, B7, B9, B10], H⟩ (by kernel_rfl) ?_
  refine w_seq ?_
  refine w_regD (.take 0 (.take 1 (.last 2 (.last 3 .done)))) (by kernel_rfl) (⟨[E4, E5], [B55, B44], H⟩ : St) ?_ ?_
  refine d_take ⟨[E1, E2, E4, E5, E56], [B54, B7, B9, B10], H⟩ (by kernel_rfl) ?_
  refine d_take ⟨[E1, E2, E4, E5, E56, E57], [B54, B7, B9, B10], H⟩ (by kernel_rfl) ?_
  refine d_last ⟨[E1, E2, E4, E5, E56, E57], [B54, B7, B55, B10], H⟩ (by kernel_rfl) ?_
  refine d_last ⟨[E1, E2, E4, E5, E56, E57], [B54, B7, B55, B44], H⟩ (by kernel_rfl) ?_
  exact d_end (by kernel_rfl)
  refine w_ret ?_
  obtain ⟨e0, e1⟩ := some2_inv hF
  subst e0
  subst e1
  exact fin_pure (v := .tup [.agg (arM .u32 16 v17 ++ [(.top, .int .u32 (IntKind.wrap .u32 (p0.PC_ + 4))), (.top, .int .u32 p0.EPC_), (.top, .int .u32 p0.Cause_), (.top, .int .i64 p0.State_), (.top, .int .i64 p0.Why_), (.top, .int .i64 p0.Steps_), (.top, .int .i64 p0.Taken_), ((.own 0), .sl 2 (List.map e_api_Event p0.Out_)), (.top, .int .u32 p0.Entry_), (.top, .int .u32 p0.Vector_), (.top, .int .u32 p0.Guard_), (.top, .int .u32 p0.Limit_), ((.own 0), .sl 1 (List.map (eI .i32) p0.Input_))]), .agg (m0_ref03_Mem p1)]) (by kernel_rfl) (by kernel_rfl) rfl (by kernel_rfl)
  refine w_cF (m := .top) h6 (s1 := S149) (by kernel_rfl) (by kernel_rfl) ?_
  refine w_skip ?_
  refine w_seq ?_
  refine w_seq ?_
  refine w_reg S157 (by kernel_rfl) ?_
  refine w_block ?_
  refine w_seq ?_
  refine w_reg ⟨[E1, E2, E3, E4, E5, E11, E12, E23, E24, E25, E26, E58, (83, .one .top (.bool (p2.Op_ == 1)))], [B6, B7, B8, B9, B10], H⟩ (by kernel_rfl) ?_
  rcases if_inv hF with ⟨h19, hF⟩ | ⟨h19, hF⟩
  refine w_cT (m := .top) h19 (s1 := S153) (by kernel_rfl) (by kernel_rfl) ?_
  refine w_seq ?_
  refine w_reg ⟨[E1, E2, E4, E5], [B59, B7, B9, B10], H⟩ (by kernel_rfl) ?_
  refine w_seq ?_
  refine w_regD (.take 0 (.take 1 (.last 2 (.last 3 .done)))) (by kernel_rfl) (⟨[E4, E5], [B60, B44], H⟩ : St) ?_ ?_
  refine d_take ⟨[E1, E2, E4, E5, E61], [B59, B7, B9, B10], H⟩ (by kernel_rfl) ?_
  refine d_take ⟨[E1, E2, E4, E5, E61, E62], [B59, B7, B9, B10], H⟩ (by kernel_rfl) ?_
  refine d_last ⟨[E1, E2, E4, E5, E61, E62], [B59, B7, B60, B10], H⟩ (by kernel_rfl) ?_
  refine d_last ⟨[E1, E2, E4, E5, E61, E62], [B59, B7, B60, B44], H⟩ (by kernel_rfl) ?_
  exact d_end (by kernel_rfl)
  refine w_ret ?_
  obtain ⟨e0, e1⟩ := some2_inv hF
  subst e0
  subst e1
  exact fin_pure (v := .tup [.agg (arM .u32 16 p0.R_ ++ [(.top, .int .u32 p0.PC_), (.top, .int .u32 p0.EPC_), (.top, .int .u32 p0.Cause_), (.top, .int .i64 1), (.top, .int .i64 p0.Why_), (.top, .int .i64 p0.Steps_), (.top, .int .i64 p0.Taken_), ((.own 0), .sl 2 (List.map e_api_Event p0.Out_)), (.top, .int .u32 p0.Entry_), (.top, .int .u32 p0.Vector_), (.top, .int .u32 p0.Guard_), (.top, .int .u32 p0.Limit_), ((.own 0), .sl 1 (List.map (eI .i32) p0.Input_))]), .agg (m0_ref03_Mem p1)]) (by kernel_rfl) (by kernel_rfl) rfl (by kernel_rfl)
  refine w_cF (m := .top) h19 (s1 := S157) (by kernel_rfl) (by kernel_rfl) ?_
  refine w_seq ?_
  refine w_reg ⟨[E1, E2, E3, E4, E5, E11, E12, E23, E24, E25, E26, E58, (88, .one .top (.bool (p2.Op_ == 2)))], [B6, B7, B8, B9, B10], H⟩ (by kernel_rfl) ?_
  refine w_join (α := (Int × T_ref04_Cpu × T_ref03_Mem)) (fun x => (⟨[E1, E2, E4, E5, (12, .one .top (.int .u32 x.1))], [(3, (m1_ref04_Cpu x.2.1)), (4, (m0_ref03_Mem x.2.2)), B9, B10], H⟩ : St)) (fun x => ref04_do_j1 x.1 x.2.1 x.2.2 = some (ra, rb)) ?_ ?_
  rintro ⟨j20, j21, j22⟩ hF
  replace hF : ref04_do_j1 j20 j21 j22 = some (ra, rb) := hF
  let B63 : EB := (3, (arM .u32 16 j21.R_ ++ [(.top, .int .u32 j20), (.top, .int .u32 j21.EPC_), (.top, .int .u32 j21.Cause_), (.top, .int .i64 j21.State_), (.top, .int .i64 j21.Why_), (.top, .int .i64 j21.Steps_), (.top, .int .i64 j21.Taken_), ((.own 0), .sl 2 (List.map e_api_Event j21.Out_)), (.top, .int .u32 j21.Entry_), (.top, .int .u32 j21.Vector_), (.top, .int .u32 j21.Guard_), (.top, .int .u32 j21.Limit_), ((.own 0), .sl 1 (List.map (eI .i32) j21.Input_))]))
  let B64 : EB := (4, (m0_ref03_Mem j22))
  let B65 : EB := (6, (arM .u32 16 j21.R_ ++ [(.top, .int .u32 j20), (.top, .int .u32 j21.EPC_), (.top, .int .u32 j21.Cause_), (.top, .int .i64 j21.State_), (.top, .int .i64 j21.Why_), (.top, .int .i64 j21.Steps_), (.top, .int .i64 j21.Taken_), ((.own 0), .sl 2 (List.map e_api_Event j21.Out_)), (.top, .int .u32 j21.Entry_), (.top, .int .u32 j21.Vector_), (.top, .int .u32 j21.Guard_), (.top, .int .u32 j21.Limit_), ((.own 0), .sl 1 (List.map (eI .i32) j21.Input_))]))
  let E66 : EN := (191, .agg (arM .u32 16 j21.R_ ++ [(.top, .int .u32 j20), (.top, .int .u32 j21.EPC_), (.top, .int .u32 j21.Cause_), (.top, .int .i64 j21.State_), (.top, .int .i64 j21.Why_), (.top, .int .i64 j21.Steps_), (.top, .int .i64 j21.Taken_), ((.own 0), .sl 2 (List.map e_api_Event j21.Out_)), (.top, .int .u32 j21.Entry_), (.top, .int .u32 j21.Vector_), (.top, .int .u32 j21.Guard_), (.top, .int .u32 j21.Limit_), ((.own 0), .sl 1 (List.map (eI .i32) j21.Input_))]))
  let E67 : EN := (192, .agg (m0_ref03_Mem j22))
  unfold ref04_do_j1 at hF
  refine w_seq ?_
  refine w_reg ⟨[E1, E2, E4, E5], [B63, B64, B9, B10], H⟩ (by kernel_rfl) ?_
  refine w_seq ?_
  refine w_regD (.take 0 (.take 1 (.last 2 (.last 3 .done)))) (by kernel_rfl) (⟨[E4, E5], [B65, (7, (m0_ref03_Mem j22))], H⟩ : St) ?_ ?_
  refine d_take ⟨[E1, E2, E4, E5, E66], [B63, B64, B9, B10], H⟩ (by kernel_rfl) ?_
  refine d_take ⟨[E1, E2, E4, E5, E66, E67], [B63, B64, B9, B10], H⟩ (by kernel_rfl) ?_
  refine d_last ⟨[E1, E2, E4, E5, E66, E67], [B63, B64, B65, B10], H⟩ (by kernel_rfl) ?_
  refine d_last ⟨[E1, E2, E4, E5, E66, E67], [B63, B64, B65, (7, (m0_ref03_Mem j22))], H⟩ (by kernel_rfl) ?_
  exact d_end (by kernel_rfl)
  refine w_ret ?_
  obtain ⟨e0, e1⟩ := some2_inv hF
  subst e0
  subst e1
  exact fin_pure (v := .tup [.agg (arM .u32 16 j21.R_ ++ [(.top, .int .u32 j20), (.top, .int .u32 j21.EPC_), (.top, .int .u32 j21.Cause_), (.top, .int .i64 j21.State_), (.top, .int .i64 j21.Why_), (.top, .int .i64 j21.Steps_), (.top, .int .i64 j21.Taken_), ((.own 0), .sl 2 (List.map e_api_Event j21.Out_)), (.top, .int .u32 j21.Entry_), (.top, .int .u32 j21.Vector_), (.top, .int .u32 j21.Guard_), (.top, .int .u32 j21.Limit_), ((.own 0), .sl 1 (List.map (eI .i32) j21.Input_))]), .agg (m0_ref03_Mem j22)]) (by kernel_rfl) (by kernel_rfl) rfl (by kernel_rfl)
  rcases if_inv hF with ⟨h23, hF⟩ | ⟨h23, hF⟩
  refine w_cT (m := .top) h23 (s1 := S158) (by kernel_rfl) (by kernel_rfl) ?_
  obtain ⟨v24, h25, hF⟩ := bind1_inv hF
  obtain ⟨v26, h27, hF⟩ := bind1_inv hF
  let B68 : EB := (3, (arM .u32 16 v26 ++ [(.top, .int .u32 p0.PC_), (.top, .int .u32 p0.EPC_), (.top, .int .u32 p0.Cause_), (.top, .int .i64 p0.State_), (.top, .int .i64 p0.Why_), (.top, .int .i64 p0.Steps_), (.top, .int .i64 p0.Taken_), ((.own 0), .sl 2 (List.map e_api_Event p0.Out_)), (.top, .int .u32 p0.Entry_), (.top, .int .u32 p0.Vector_), (.top, .int .u32 p0.Guard_), (.top, .int .u32 p0.Limit_), ((.own 0), .sl 1 (List.map (eI .i32) p0.Input_))]))
  refine w_regO ⟨[E1, E2, E4, E5, E25], [B68, B7, B9, B10], H⟩ ?_ ?_
  refine o_run 4 S159 (by kernel_rfl) (by kernel_rfl) ?_
  refine o_one S160 (st_ixL (X := X) S159 46 35 16 h25 3 0 (some 94) (by kernel_rfl) (by kernel_rfl) (by kernel_rfl) (by kernel_rfl)) ?_
  refine o_one ⟨[E1, E2, E3, E4, E5, E23, E25, E69, E70, E71, E72, E73], [B68, B7, B8, B9, B10], H⟩ (st_stL (X := X) S160 35 16 h27 3 0 (arM .u32 16 p0.R_ ++ [(.top, .int .u32 p0.PC_), (.top, .int .u32 p0.EPC_), (.top, .int .u32 p0.Cause_), (.top, .int .i64 p0.State_), (.top, .int .i64 p0.Why_), (.top, .int .i64 p0.Steps_), (.top, .int .i64 p0.Taken_), ((.own 0), .sl 2 (List.map e_api_Event p0.Out_)), (.top, .int .u32 p0.Entry_), (.top, .int .u32 p0.Vector_), (.top, .int .u32 p0.Guard_), (.top, .int .u32 p0.Limit_), ((.own 0), .sl 1 (List.map (eI .i32) p0.Input_))]) (fun q => .int .u32 q) ⟨true, []⟩ (by kernel_rfl) (by kernel_rfl) (by kernel_rfl) (by kernel_rfl) (by kernel_rfl) (fun _ => rfl) (by kernel_rfl)) ?_
  exact o_end (by kernel_rfl) (by kernel_rfl)
  exact ⟨((IntKind.wrap .u32 (p0.PC_ + 4)), (T_ref04_Cpu.mk v26 p0.PC_ p0.EPC_ p0.Cause_ p0.State_ p0.Why_ p0.Steps_ p0.Taken_ p0.Out_ p0.Entry_ p0.Vector_ p0.Guard_ p0.Limit_ p0.Input_), p1), hF, (by kernel_rfl)⟩
  refine w_cF (m := .top) h23 (s1 := S157) (by kernel_rfl) (by kernel_rfl) ?_
  refine w_seq ?_
  refine w_reg ⟨[E1, E2, E3, E4, E5, E11, E12, E23, E24, E25, E26, E58, (95, .one .top (.bool (p2.Op_ == 3)))], [B6, B7, B8, B9, B10], H⟩ (by kernel_rfl) ?_
  refine w_join (α := (Int × T_ref04_Cpu × T_ref03_Mem)) (fun x => (⟨[E1, E2, E4, E5, (12, .one .top (.int .u32 x.1))], [(3, (m1_ref04_Cpu x.2.1)), (4, (m0_ref03_Mem x.2.2)), B9, B10], H⟩ : St)) (fun x => ref04_do_j2 x.1 x.2.1 x.2.2 = some (ra, rb)) ?_ ?_
  rintro ⟨j28, j29, j30⟩ hF
  replace hF : ref04_do_j2 j28 j29 j30 = some (ra, rb) := hF
  unfold ref04_do_j2 at hF
  exact ⟨(j28, j29, j30), hF, (by kernel_rfl)⟩
  rcases if_inv hF with ⟨h31, hF⟩ | ⟨h31, hF⟩
  refine w_cT (m := .top) h31 (s1 := S158) (by kernel_rfl) (by kernel_rfl) ?_
  obtain ⟨v32, h33, hF⟩ := bind1_inv hF
  obtain ⟨v34, h35, hF⟩ := bind1_inv hF
  let B74 : EB := (3, (arM .u32 16 v34 ++ [(.top, .int .u32 p0.PC_), (.top, .int .u32 p0.EPC_), (.top, .int .u32 p0.Cause_), (.top, .int .i64 p0.State_), (.top, .int .i64 p0.Why_), (.top, .int .i64 p0.Steps_), (.top, .int .i64 p0.Taken_), ((.own 0), .sl 2 (List.map e_api_Event p0.Out_)), (.top, .int .u32 p0.Entry_), (.top, .int .u32 p0.Vector_), (.top, .int .u32 p0.Guard_), (.top, .int .u32 p0.Limit_), ((.own 0), .sl 1 (List.map (eI .i32) p0.Input_))]))
  refine w_regO ⟨[E1, E2, E4, E5, E25], [B74, B7, B9, B10], H⟩ ?_ ?_
  refine o_run 5 S161 (by kernel_rfl) (by kernel_rfl) ?_
  refine o_one S162 (st_ixL (X := X) S161 46 35 16 h33 3 0 (some 102) (by kernel_rfl) (by kernel_rfl) (by kernel_rfl) (by kernel_rfl)) ?_
  refine o_one ⟨[E1, E2, E3, E4, E5, E23, E25, E75, E76, E77, E78, E79, E80], [B74, B7, B8, B9, B10], H⟩ (st_stL (X := X) S162 35 16 h35 3 0 (arM .u32 16 p0.R_ ++ [(.top, .int .u32 p0.PC_), (.top, .int .u32 p0.EPC_), (.top, .int .u32 p0.Cause_), (.top, .int .i64 p0.State_), (.top, .int .i64 p0.Why_), (.top, .int .i64 p0.Steps_), (.top, .int .i64 p0.Taken_), ((.own 0), .sl 2 (List.map e_api_Event p0.Out_)), (.top, .int .u32 p0.Entry_), (.top, .int .u32 p0.Vector_), (.top, .int .u32 p0.Guard_), (.top, .int .u32 p0.Limit_), ((.own 0), .sl 1 (List.map (eI .i32) p0.Input_))]) (fun q => .int .u32 q) ⟨true, []⟩ (by kernel_rfl) (by kernel_rfl) (by kernel_rfl) (by kernel_rfl) (by kernel_rfl) (fun _ => rfl) (by kernel_rfl)) ?_
  exact o_end (by kernel_rfl) (by kernel_rfl)
  exact ⟨((IntKind.wrap .u32 (p0.PC_ + 4)), (T_ref04_Cpu.mk v34 p0.PC_ p0.EPC_ p0.Cause_ p0.State_ p0.Why_ p0.Steps_ p0.Taken_ p0.Out_ p0.Entry_ p0.Vector_ p0.Guard_ p0.Limit_ p0.Input_), p1), hF, (by kernel_rfl)⟩
  refine w_cF (m := .top) h31 (s1 := S157) (by kernel_rfl) (by kernel_rfl) ?_
  refine w_seq ?_
  refine w_reg ⟨[E1, E2, E3, E4, E5, E11, E12, E23, E24, E25, E26, E58, (103, .one .top (.bool (p2.Op_ == 4)))], [B6, B7, B8, B9, B10], H⟩ (by kernel_rfl) ?_
  refine w_join (α := (Int × T_ref04_Cpu × T_ref03_Mem)) (fun x => (⟨[E1, E2, E4, E5, (12, .one .top (.int .u32 x.1))], [(3, (m1_ref04_Cpu x.2.1)), (4, (m0_ref03_Mem x.2.2)), B9, B10], H⟩ : St)) (fun x => ref04_do_j3 x.1 x.2.1 x.2.2 = some (ra, rb)) ?_ ?_
  rintro ⟨j36, j37, j38⟩ hF
  replace hF : ref04_do_j3 j36 j37 j38 = some (ra, rb) := hF
  unfold ref04_do_j3 at hF
  exact ⟨(j36, j37, j38), hF, (by kernel_rfl)⟩
  rcases if_inv hF with ⟨h39, hF⟩ | ⟨h39, hF⟩
  refine w_cT (m := .top) h39 (s1 := S163) (by kernel_rfl) (by kernel_rfl) ?_
  obtain ⟨v40, h41, hF⟩ := bind1_inv hF
  obtain ⟨v42, h43, hF⟩ := bind1_inv hF
  let B81 : EB := (3, (arM .u32 16 v42 ++ [(.top, .int .u32 p0.PC_), (.top, .int .u32 p0.EPC_), (.top, .int .u32 p0.Cause_), (.top, .int .i64 p0.State_), (.top, .int .i64 p0.Why_), (.top, .int .i64 p0.Steps_), (.top, .int .i64 p0.Taken_), ((.own 0), .sl 2 (List.map e_api_Event p0.Out_)), (.top, .int .u32 p0.Entry_), (.top, .int .u32 p0.Vector_), (.top, .int .u32 p0.Guard_), (.top, .int .u32 p0.Limit_), ((.own 0), .sl 1 (List.map (eI .i32) p0.Input_))]))
  refine w_regO ⟨[E1, E2, E4, E5, E25], [B81, B7, B9, B10], H⟩ ?_ ?_
  refine o_run 6 S164 (by kernel_rfl) (by kernel_rfl) ?_
  refine o_one S165 (st_ixL (X := X) S164 46 35 16 h41 3 0 (some 111) (by kernel_rfl) (by kernel_rfl) (by kernel_rfl) (by kernel_rfl)) ?_
  refine o_one ⟨[E1, E2, E3, E4, E5, E12, E23, E25, E82, E83, E84, E85, E86, E87, E88], [B81, B7, B8, B9, B10], H⟩ (st_stL (X := X) S165 35 16 h43 3 0 (arM .u32 16 p0.R_ ++ [(.top, .int .u32 p0.PC_), (.top, .int .u32 p0.EPC_), (.top, .int .u32 p0.Cause_), (.top, .int .i64 p0.State_), (.top, .int .i64 p0.Why_), (.top, .int .i64 p0.Steps_), (.top, .int .i64 p0.Taken_), ((.own 0), .sl 2 (List.map e_api_Event p0.Out_)), (.top, .int .u32 p0.Entry_), (.top, .int .u32 p0.Vector_), (.top, .int .u32 p0.Guard_), (.top, .int .u32 p0.Limit_), ((.own 0), .sl 1 (List.map (eI .i32) p0.Input_))]) (fun q => .int .u32 q) ⟨true, []⟩ (by kernel_rfl) (by kernel_rfl) (by kernel_rfl) (by kernel_rfl) (by kernel_rfl) (fun _ => rfl) (by kernel_rfl)) ?_
  exact o_end (by kernel_rfl) (by kernel_rfl)
  exact ⟨((IntKind.wrap .u32 (p0.PC_ + 4)), (T_ref04_Cpu.mk v42 p0.PC_ p0.EPC_ p0.Cause_ p0.State_ p0.Why_ p0.Steps_ p0.Taken_ p0.Out_ p0.Entry_ p0.Vector_ p0.Guard_ p0.Limit_ p0.Input_), p1), hF, (by kernel_rfl)⟩
  refine w_cF (m := .top) h39 (s1 := S157) (by kernel_rfl) (by kernel_rfl) ?_
  refine w_seq ?_
  refine w_reg ⟨[E1, E2, E3, E4, E5, E11, E12, E23, E24, E25, E26, E58, (112, .one .top (.bool (p2.Op_ == 5)))], [B6, B7, B8, B9, B10], H⟩ (by kernel_rfl) ?_
  refine w_join (α := (Int × T_ref04_Cpu × T_ref03_Mem)) (fun x => (⟨[E1, E2, E4, E5, (12, .one .top (.int .u32 x.1))], [(3, (m1_ref04_Cpu x.2.1)), (4, (m0_ref03_Mem x.2.2)), B9, B10], H⟩ : St)) (fun x => ref04_do_j4 x.1 x.2.1 x.2.2 = some (ra, rb)) ?_ ?_
  rintro ⟨j44, j45, j46⟩ hF
  replace hF : ref04_do_j4 j44 j45 j46 = some (ra, rb) := hF
  unfold ref04_do_j4 at hF
  exact ⟨(j44, j45, j46), hF, (by kernel_rfl)⟩
  rcases if_inv hF with ⟨h47, hF⟩ | ⟨h47, hF⟩
  refine w_cT (m := .top) h47 (s1 := S163) (by kernel_rfl) (by kernel_rfl) ?_
  obtain ⟨v48, h49, hF⟩ := bind1_inv hF
  obtain ⟨v50, h51, hF⟩ := bind1_inv hF
  let B89 : EB := (3, (arM .u32 16 v50 ++ [(.top, .int .u32 p0.PC_), (.top, .int .u32 p0.EPC_), (.top, .int .u32 p0.Cause_), (.top, .int .i64 p0.State_), (.top, .int .i64 p0.Why_), (.top, .int .i64 p0.Steps_), (.top, .int .i64 p0.Taken_), ((.own 0), .sl 2 (List.map e_api_Event p0.Out_)), (.top, .int .u32 p0.Entry_), (.top, .int .u32 p0.Vector_), (.top, .int .u32 p0.Guard_), (.top, .int .u32 p0.Limit_), ((.own 0), .sl 1 (List.map (eI .i32) p0.Input_))]))
  refine w_regO ⟨[E1, E2, E4, E5, E25], [B89, B7, B9, B10], H⟩ ?_ ?_
  refine o_run 6 S166 (by kernel_rfl) (by kernel_rfl) ?_
  refine o_one S167 (st_ixL (X := X) S166 46 35 16 h49 3 0 (some 120) (by kernel_rfl) (by kernel_rfl) (by kernel_rfl) (by kernel_rfl)) ?_
  refine o_one ⟨[E1, E2, E3, E4, E5, E12, E23, E25, E90, E91, E92, E93, E94, E95, E96], [B89, B7, B8, B9, B10], H⟩ (st_stL (X := X) S167 35 16 h51 3 0 (arM .u32 16 p0.R_ ++ [(.top, .int .u32 p0.PC_), (.top, .int .u32 p0.EPC_), (.top, .int .u32 p0.Cause_), (.top, .int .i64 p0.State_), (.top, .int .i64 p0.Why_), (.top, .int .i64 p0.Steps_), (.top, .int .i64 p0.Taken_), ((.own 0), .sl 2 (List.map e_api_Event p0.Out_)), (.top, .int .u32 p0.Entry_), (.top, .int .u32 p0.Vector_), (.top, .int .u32 p0.Guard_), (.top, .int .u32 p0.Limit_), ((.own 0), .sl 1 (List.map (eI .i32) p0.Input_))]) (fun q => .int .u32 q) ⟨true, []⟩ (by kernel_rfl) (by kernel_rfl) (by kernel_rfl) (by kernel_rfl) (by kernel_rfl) (fun _ => rfl) (by kernel_rfl)) ?_
  exact o_end (by kernel_rfl) (by kernel_rfl)
  exact ⟨((IntKind.wrap .u32 (p0.PC_ + 4)), (T_ref04_Cpu.mk v50 p0.PC_ p0.EPC_ p0.Cause_ p0.State_ p0.Why_ p0.Steps_ p0.Taken_ p0.Out_ p0.Entry_ p0.Vector_ p0.Guard_ p0.Limit_ p0.Input_), p1), hF, (by kernel_rfl)⟩
  refine w_cF (m := .top) h47 (s1 := S157) (by kernel_rfl) (by kernel_rfl) ?_
  refine w_seq ?_
  refine w_reg ⟨[E1, E2, E3, E4, E5, E11, E12, E23, E24, E25, E26, E58, (121, .one .top (.bool (p2.Op_ == 34)))], [B6, B7, B8, B9, B10], H⟩ (by kernel_rfl) ?_
  refine w_join (α := (Int × T_ref04_Cpu × T_ref03_Mem)) (fun x => (⟨[E1, E2, E4, E5, (12, .one .top (.int .u32 x.1))], [(3, (m1_ref04_Cpu x.2.1)), (4, (m0_ref03_Mem x.2.2)), B9, B10], H⟩ : St)) (fun x => ref04_do_j5 x.1 x.2.1 x.2.2 = some (ra, rb)) ?_ ?_
  rintro ⟨j52, j53, j54⟩ hF
  replace hF : ref04_do_j5 j52 j53 j54 = some (ra, rb) := hF
  unfold ref04_do_j5 at hF
  exact ⟨(j52, j53, j54), hF, (by kernel_rfl)⟩
  rcases if_inv hF with ⟨h55, hF⟩ | ⟨h55, hF⟩
  refine w_cT (m := .top) h55 (s1 := S163) (by kernel_rfl) (by kernel_rfl) ?_
  obtain ⟨v56, h57, hF⟩ := bind1_inv hF
  obtain ⟨v58, h59, hF⟩ := bind1_inv hF
  let B97 : EB := (3, (arM .u32 16 v58 ++ [(.top, .int .u32 p0.PC_), (.top, .int .u32 p0.EPC_), (.top, .int .u32 p0.Cause_), (.top, .int .i64 p0.State_), (.top, .int .i64 p0.Why_), (.top, .int .i64 p0.Steps_), (.top, .int .i64 p0.Taken_), ((.own 0), .sl 2 (List.map e_api_Event p0.Out_)), (.top, .int .u32 p0.Entry_), (.top, .int .u32 p0.Vector_), (.top, .int .u32 p0.Guard_), (.top, .int .u32 p0.Limit_), ((.own 0), .sl 1 (List.map (eI .i32) p0.Input_))]))
  refine w_regO ⟨[E1, E2, E4, E5, E25], [B97, B7, B9, B10], H⟩ ?_ ?_
  refine o_run 6 S168 (by kernel_rfl) (by kernel_rfl) ?_
  refine o_one S169 (st_ixL (X := X) S168 46 35 16 h57 3 0 (some 129) (by kernel_rfl) (by kernel_rfl) (by kernel_rfl) (by kernel_rfl)) ?_
  refine o_one ⟨[E1, E2, E3, E4, E5, E12, E23, E25, E98, E99, E100, E101, E102, E103, E104], [B97, B7, B8, B9, B10], H⟩ (st_stL (X := X) S169 35 16 h59 3 0 (arM .u32 16 p0.R_ ++ [(.top, .int .u32 p0.PC_), (.top, .int .u32 p0.EPC_), (.top, .int .u32 p0.Cause_), (.top, .int .i64 p0.State_), (.top, .int .i64 p0.Why_), (.top, .int .i64 p0.Steps_), (.top, .int .i64 p0.Taken_), ((.own 0), .sl 2 (List.map e_api_Event p0.Out_)), (.top, .int .u32 p0.Entry_), (.top, .int .u32 p0.Vector_), (.top, .int .u32 p0.Guard_), (.top, .int .u32 p0.Limit_), ((.own 0), .sl 1 (List.map (eI .i32) p0.Input_))]) (fun q => .int .u32 q) ⟨true, []⟩ (by kernel_rfl) (by kernel_rfl) (by kernel_rfl) (by kernel_rfl) (by kernel_rfl) (fun _ => rfl) (by kernel_rfl)) ?_
  exact o_end (by kernel_rfl) (by kernel_rfl)
  exact ⟨((IntKind.wrap .u32 (p0.PC_ + 4)), (T_ref04_Cpu.mk v58 p0.PC_ p0.EPC_ p0.Cause_ p0.State_ p0.Why_ p0.Steps_ p0.Taken_ p0.Out_ p0.Entry_ p0.Vector_ p0.Guard_ p0.Limit_ p0.Input_), p1), hF, (by kernel_rfl)⟩
  refine w_cF (m := .top) h55 (s1 := S157) (by kernel_rfl) (by kernel_rfl) ?_
  refine w_seq ?_
  refine w_reg ⟨[E1, E2, E3, E4, E5, E11, E12, E23, E24, E25, E26, E58, (130, .one .top (.bool (p2.Op_ == 18)))], [B6, B7, B8, B9, B10], H⟩ (by kernel_rfl) ?_
  refine w_join (α := (Int × T_ref04_Cpu × T_ref03_Mem)) (fun x => (⟨[E1, E2, E4, E5, (12, .one .top (.int .u32 x.1))], [(3, (m1_ref04_Cpu x.2.1)), (4, (m0_ref03_Mem x.2.2)), B9, B10], H⟩ : St)) (fun x => ref04_do_j6 x.1 x.2.1 x.2.2 = some (ra, rb)) ?_ ?_
  rintro ⟨j60, j61, j62⟩ hF
  replace hF : ref04_do_j6 j60 j61 j62 = some (ra, rb) := hF
  unfold ref04_do_j6 at hF
  exact ⟨(j60, j61, j62), hF, (by kernel_rfl)⟩
  rcases if_inv hF with ⟨h63, hF⟩ | ⟨h63, hF⟩
  refine w_cT (m := .top) h63 (s1 := S163) (by kernel_rfl) (by kernel_rfl) ?_
  refine w_seq ?_
  obtain ⟨r64, r65, c66, hF⟩ := bind2_inv hF
  let E105 : EN := (16, .one .top (.int .u32 r64))
  let E106 : EN := (17, .one .top (.int .i64 r65))
  let E111 : EN := (137, .tup [.one .top (.int .u32 r64), .one .top (.int .i64 r65)])
  let E114 : EN := (143, .one .top (.int .i64 r65))
  let E120 : EN := (148, .one .top (.int .u32 r64))
  let S171 : St := ⟨[E1, E2, E4, E5, E106, E113, E114, E115], [B6, B7, B9, B10], H⟩
  let S172 : St := ⟨[E1, E2, E3, E4, E5, E25, E105, E118, E119, E120, E121], [B6, B7, B8, B9, B10], H⟩
  let S173 : St := ⟨[E1, E2, E3, E4, E5, E25, E105, E118, E119, E120, E121, E122], [B6, B7, B8, B9, B10], H⟩
  refine w_regO ⟨[E1, E2, E3, E4, E5, E25, E105, E106], [B6, B7, B8, B9, B10], H⟩ ?_ ?_
  refine o_run 4 S170 (by kernel_rfl) (by kernel_rfl) ?_
  refine o_one ⟨[E1, E2, E3, E4, E5, E12, E23, E25, E107, E108, E109, E110, E111], [B6, B7, B8, B9, B10], H⟩ (st_call (d := (some 137)) (fz := false) (pure := true) (own := false) S170 (ok_ref03_Load H c66) (by kernel_rfl) (by kernel_rfl)) ?_
  refine o_run 5 ⟨[E1, E2, E3, E4, E5, E12, E23, E25, E105, E106, (132, .tup [.one .top (.int .u32 r64), .one .top (.int .i64 r65)]), E107, E108, E109, E110, E111, (138, .one .top (.int .u32 r64)), (139, .one .top (.int .i64 r65))], [B6, B7, B8, B9, B10], H⟩ (by kernel_rfl) (by kernel_rfl) ?_
  exact o_end (by kernel_rfl) (by kernel_rfl)
  refine w_seq ?_
  refine w_seq ?_
  refine w_reg ⟨[E1, E2, E3, E4, E5, E25, E105, E106, (141, .one .top (.bool (r65 != 0)))], [B6, B7, B8, B9, B10], H⟩ (by kernel_rfl) ?_
  rcases if_inv hF with ⟨h67, hF⟩ | ⟨h67, hF⟩
  refine w_cT (m := .top) h67 (s1 := (⟨[E1, E2, E4, E5, E106], [B6, B7, B9, B10], H⟩ : St)) (by kernel_rfl) (by kernel_rfl) ?_
  refine w_seq ?_
  obtain ⟨r68, c69, hF⟩ := bind1_inv hF
  let B112 : EB := (6, (m1_ref04_Cpu r68))
  let E116 : EN := (144, .agg (m1_ref04_Cpu r68))
  refine w_regD (.take 0 (.take 1 (.take 3 (.last 2 (.last 4 (.last 5 .done)))))) (by kernel_rfl) (⟨[E4, E5], [B112, B44], H⟩ : St) ?_ ?_
  refine d_take ⟨[E1, E2, E4, E5, E106, E113], [B6, B7, B9, B10], H⟩ (by kernel_rfl) ?_
  refine d_take ⟨[E1, E2, E4, E5, E106, E113, E114], [B6, B7, B9, B10], H⟩ (by kernel_rfl) ?_
  refine d_take S171 (by kernel_rfl) ?_
  refine d_last ⟨[E1, E2, E4, E5, E106, E113, E114, E116, E115], [B6, B7, B9, B10], H⟩ (st_call (d := (some 144)) (fz := false) (pure := true) (own := false) S171 (ok_ref04_fault H c69) (by kernel_rfl) (by kernel_rfl)) ?_
  refine d_last ⟨[E1, E2, E4, E5, E106, E113, E114, E116, E115], [B6, B7, B112, B10], H⟩ (by kernel_rfl) ?_
  refine d_last ⟨[E1, E2, E4, E5, E106, E113, E114, E116, E115], [B6, B7, B112, B44], H⟩ (by kernel_rfl) ?_
  exact d_end (by kernel_rfl)
  refine w_ret ?_
  obtain ⟨e0, e1⟩ := some2_inv hF
  subst e0
  subst e1
  exact fin_pure (v := .tup [.agg (m1_ref04_Cpu r68), .agg (m0_ref03_Mem p1)]) (by kernel_rfl) (by kernel_rfl) rfl (by kernel_rfl)
  refine w_cF (m := .top) h67 (s1 := (⟨[E1, E2, E3, E4, E5, E25, E105], [B6, B7, B8, B9, B10], H⟩ : St)) (by kernel_rfl) (by kernel_rfl) ?_
  refine w_skip ?_
  obtain ⟨v70, h71, hF⟩ := bind1_inv hF
  obtain ⟨v72, h73, hF⟩ := bind1_inv hF
  let B117 : EB := (3, (arM .u32 16 v72 ++ [(.top, .int .u32 p0.PC_), (.top, .int .u32 p0.EPC_), (.top, .int .u32 p0.Cause_), (.top, .int .i64 p0.State_), (.top, .int .i64 p0.Why_), (.top, .int .i64 p0.Steps_), (.top, .int .i64 p0.Taken_), ((.own 0), .sl 2 (List.map e_api_Event p0.Out_)), (.top, .int .u32 p0.Entry_), (.top, .int .u32 p0.Vector_), (.top, .int .u32 p0.Guard_), (.top, .int .u32 p0.Limit_), ((.own 0), .sl 1 (List.map (eI .i32) p0.Input_))]))
  refine w_regO ⟨[E1, E2, E4, E5, E25], [B117, B7, B9, B10], H⟩ ?_ ?_
  refine o_run 4 S172 (by kernel_rfl) (by kernel_rfl) ?_
  refine o_one S173 (st_ixL (X := X) S172 46 35 16 h71 3 0 (some 150) (by kernel_rfl) (by kernel_rfl) (by kernel_rfl) (by kernel_rfl)) ?_
  refine o_one ⟨[E1, E2, E3, E4, E5, E25, E105, E118, E119, E120, E121, E122], [B117, B7, B8, B9, B10], H⟩ (st_stL (X := X) S173 35 16 h73 3 0 (arM .u32 16 p0.R_ ++ [(.top, .int .u32 p0.PC_), (.top, .int .u32 p0.EPC_), (.top, .int .u32 p0.Cause_), (.top, .int .i64 p0.State_), (.top, .int .i64 p0.Why_), (.top, .int .i64 p0.Steps_), (.top, .int .i64 p0.Taken_), ((.own 0), .sl 2 (List.map e_api_Event p0.Out_)), (.top, .int .u32 p0.Entry_), (.top, .int .u32 p0.Vector_), (.top, .int .u32 p0.Guard_), (.top, .int .u32 p0.Limit_), ((.own 0), .sl 1 (List.map (eI .i32) p0.Input_))]) (fun q => .int .u32 q) ⟨true, []⟩ (by kernel_rfl) (by kernel_rfl) (by kernel_rfl) (by kernel_rfl) (by kernel_rfl) (fun _ => rfl) (by kernel_rfl)) ?_
  exact o_end (by kernel_rfl) (by kernel_rfl)
  exact ⟨((IntKind.wrap .u32 (p0.PC_ + 4)), (T_ref04_Cpu.mk v72 p0.PC_ p0.EPC_ p0.Cause_ p0.State_ p0.Why_ p0.Steps_ p0.Taken_ p0.Out_ p0.Entry_ p0.Vector_ p0.Guard_ p0.Limit_ p0.Input_), p1), hF, (by kernel_rfl)⟩
  refine w_cF (m := .top) h63 (s1 := S157) (by kernel_rfl) (by kernel_rfl) ?_
  refine w_seq ?_
  refine w_reg ⟨[E1, E2, E3, E4, E5, E11, E12, E23, E24, E25, E26, E58, (151, .one .top (.bool (p2.Op_ == 19)))], [B6, B7, B8, B9, B10], H⟩ (by kernel_rfl) ?_
  refine w_join (α := (Int × T_ref04_Cpu × T_ref03_Mem)) (fun x => (⟨[E1, E2, E4, E5, (12, .one .top (.int .u32 x.1))], [(3, (m1_ref04_Cpu x.2.1)), (4, (m0_ref03_Mem x.2.2)), B9, B10], H⟩ : St)) (fun x => ref04_do_j7 x.1 x.2.1 x.2.2 = some (ra, rb)) ?_ ?_
  rintro ⟨j74, j75, j76⟩ hF
  replace hF : ref04_do_j7 j74 j75 j76 = some (ra, rb) := hF
  unfold ref04_do_j7 at hF
  exact ⟨(j74, j75, j76), hF, (by kernel_rfl)⟩
  rcases if_inv hF with ⟨h77, hF⟩ | ⟨h77, hF⟩
  refine w_cT (m := .top) h77 (s1 := (⟨[E1, E2, E4, E5, E11, E12, E23, E25], [B6, B7, B9, B10], H⟩ : St)) (by kernel_rfl) (by kernel_rfl) ?_
  refine w_seq ?_
  obtain ⟨r78, r79, c80, hF⟩ := bind2_inv hF
  let E124 : EN := (19, .one .top (.int .i64 r79))
  let B125 : EB := (18, (m0_ref03_Mem r78))
  let E131 : EN := (159, .tup [.agg (m0_ref03_Mem r78), .one .top (.int .i64 r79)])
  let E134 : EN := (165, .one .top (.int .i64 r79))
  let S175 : St := ⟨[E1, E2, E4, E5, E124, E133, E134, E135], [B6, B7, B9, B10], H⟩
  refine w_regO ⟨[E1, E2, E4, E5, E25, E123, E124], [B6, B7, B9, B10, B125], H⟩ ?_ ?_
  refine o_run 5 S174 (by kernel_rfl) (by kernel_rfl) ?_
  refine o_one ⟨[E1, E2, E4, E5, E11, E12, E23, E25, E126, E127, E128, E129, E130, E131], [B6, B7, B9, B10], H⟩ (st_call (d := (some 159)) (fz := false) (pure := true) (own := false) S174 (ok_ref03_Store H c80) (by kernel_rfl) (by kernel_rfl)) ?_
  refine o_run 6 ⟨[E1, E2, E4, E5, E11, E12, E23, E25, E123, E124, (153, .tup [.agg (m0_ref03_Mem r78), .one .top (.int .i64 r79)]), E126, E127, E128, E129, E130, E131, (160, .agg (m0_ref03_Mem r78)), (161, .one .top (.int .i64 r79))], [B6, B7, B9, B10, B125], H⟩ (by kernel_rfl) (by kernel_rfl) ?_
  exact o_end (by kernel_rfl) (by kernel_rfl)
  refine w_seq ?_
  refine w_seq ?_
  refine w_reg ⟨[E1, E2, E4, E5, E25, E123, E124, (163, .one .top (.bool (r79 != 0)))], [B6, B7, B9, B10, B125], H⟩ (by kernel_rfl) ?_
  rcases if_inv hF with ⟨h81, hF⟩ | ⟨h81, hF⟩
  refine w_cT (m := .top) h81 (s1 := (⟨[E1, E2, E4, E5, E124], [B6, B7, B9, B10], H⟩ : St)) (by kernel_rfl) (by kernel_rfl) ?_
  refine w_seq ?_
  obtain ⟨r82, c83, hF⟩ := bind1_inv hF
  let B132 : EB := (6, (m1_ref04_Cpu r82))
  let E136 : EN := (166, .agg (m1_ref04_Cpu r82))
  refine w_regD (.take 0 (.take 1 (.take 3 (.last 2 (.last 4 (.last 5 .done)))))) (by kernel_rfl) (⟨[E4, E5], [B132, B44], H⟩ : St) ?_ ?_
  refine d_take ⟨[E1, E2, E4, E5, E124, E133], [B6, B7, B9, B10], H⟩ (by kernel_rfl) ?_
  refine d_take ⟨[E1, E2, E4, E5, E124, E133, E134], [B6, B7, B9, B10], H⟩ (by kernel_rfl) ?_
  refine d_take S175 (by kernel_rfl) ?_
  refine d_last ⟨[E1, E2, E4, E5, E124, E133, E134, E136, E135], [B6, B7, B9, B10], H⟩ (st_call (d := (some 166)) (fz := false) (pure := true) (own := false) S175 (ok_ref04_fault H c83) (by kernel_rfl) (by kernel_rfl)) ?_
  refine d_last ⟨[E1, E2, E4, E5, E124, E133, E134, E136, E135], [B6, B7, B132, B10], H⟩ (by kernel_rfl) ?_
  refine d_last ⟨[E1, E2, E4, E5, E124, E133, E134, E136, E135], [B6, B7, B132, B44], H⟩ (by kernel_rfl) ?_
  exact d_end (by kernel_rfl)
  refine w_ret ?_
  obtain ⟨e0, e1⟩ := some2_inv hF
  subst e0
  subst e1
  exact fin_pure (v := .tup [.agg (m1_ref04_Cpu r82), .agg (m0_ref03_Mem p1)]) (by kernel_rfl) (by kernel_rfl) rfl (by kernel_rfl)
  refine w_cF (m := .top) h81 (s1 := (⟨[E1, E2, E4, E5, E25, E123], [B6, B7, B9, B10, B125], H⟩ : St)) (by kernel_rfl) (by kernel_rfl) ?_
  refine w_skip ?_
  refine w_reg ⟨[E1, E2, E4, E5, E25], [B6, (4, (m0_ref03_Mem r78)), B9, B10], H⟩ (by kernel_rfl) ?_
  exact ⟨((IntKind.wrap .u32 (p0.PC_ + 4)), p0, r78), hF, (by kernel_rfl)⟩
  refine w_cF (m := .top) h77 (s1 := S176) (by kernel_rfl) (by kernel_rfl) ?_
  refine w_seq ?_
  refine w_reg ⟨[E1, E2, E3, E4, E5, E11, E24, E25, E26, E58, (169, .one .top (.bool (p2.Op_ == 20)))], [B6, B7, B8, B9, B10], H⟩ (by kernel_rfl) ?_
  refine w_join (α := (Int × T_ref04_Cpu)) (fun x => (⟨[E1, E2, E4, E5, (12, .one .top (.int .u32 x.1))], [(3, (m1_ref04_Cpu x.2)), B7, B9, B10], H⟩ : St)) (fun x => ref04_do_j8 p1 x.1 x.2 = some (ra, rb)) ?_ ?_
  rintro ⟨j84, j85⟩ hF
  replace hF : ref04_do_j8 p1 j84 j85 = some (ra, rb) := hF
  unfold ref04_do_j8 at hF
  exact ⟨(j84, j85, p1), hF, (by kernel_rfl)⟩
  rcases if_inv hF with ⟨h86, hF⟩ | ⟨h86, hF⟩
  refine w_cT (m := .top) h86 (s1 := S177) (by kernel_rfl) (by kernel_rfl) ?_
  refine w_seq ?_
  refine w_reg ⟨[E1, E2, E4, E5, E25, E26, (172, .one .top (.bool (v1 == 0)))], [B6, B7, B9, B10], H⟩ (by kernel_rfl) ?_
  refine w_join (α := (Int)) (fun x => (⟨[E1, E2, E4, E5, (12, .one .top (.int .u32 x))], [B6, B7, B9, B10], H⟩ : St)) (fun x => ref04_do_j9 p1 p0 x = some (ra, rb)) ?_ ?_
  rintro j87 hF
  replace hF : ref04_do_j9 p1 p0 j87 = some (ra, rb) := hF
  unfold ref04_do_j9 at hF
  exact ⟨(j87, p0), hF, (by kernel_rfl)⟩
  rcases if_inv hF with ⟨h88, hF⟩ | ⟨h88, hF⟩
  refine w_cT (m := .top) h88 (s1 := S178) (by kernel_rfl) (by kernel_rfl) ?_
  refine w_reg S179 (by kernel_rfl) ?_
  exact ⟨(IntKind.wrap .u32 ((IntKind.wrap .u32 (p0.PC_ + 4)) + (IntKind.wrap .u32 (4 * (IntKind.wrap .u32 p2.Imm_))))), hF, (by kernel_rfl)⟩
  refine w_cF (m := .top) h88 (s1 := S180) (by kernel_rfl) (by kernel_rfl) ?_
  refine w_skip ?_
  exact ⟨(IntKind.wrap .u32 (p0.PC_ + 4)), hF, (by kernel_rfl)⟩
  refine w_cF (m := .top) h86 (s1 := S176) (by kernel_rfl) (by kernel_rfl) ?_
  refine w_seq ?_
  refine w_reg ⟨[E1, E2, E3, E4, E5, E11, E24, E25, E26, E58, (174, .one .top (.bool (p2.Op_ == 21)))], [B6, B7, B8, B9, B10], H⟩ (by kernel_rfl) ?_
  refine w_join (α := (Int × T_ref04_Cpu)) (fun x => (⟨[E1, E2, E4, E5, (12, .one .top (.int .u32 x.1))], [(3, (m1_ref04_Cpu x.2)), B7, B9, B10], H⟩ : St)) (fun x => ref04_do_j10 p1 x.1 x.2 = some (ra, rb)) ?_ ?_
  rintro ⟨j89, j90⟩ hF
  replace hF : ref04_do_j10 p1 j89 j90 = some (ra, rb) := hF
  unfold ref04_do_j10 at hF
  exact ⟨(j89, j90), hF, (by kernel_rfl)⟩
  rcases if_inv hF with ⟨h91, hF⟩ | ⟨h91, hF⟩
  refine w_cT (m := .top) h91 (s1 := S177) (by kernel_rfl) (by kernel_rfl) ?_
  refine w_seq ?_
  refine w_reg ⟨[E1, E2, E4, E5, E25, E26, (177, .one .top (.bool (v1 != 0)))], [B6, B7, B9, B10], H⟩ (by kernel_rfl) ?_
  refine w_join (α := (Int)) (fun x => (⟨[E1, E2, E4, E5, (12, .one .top (.int .u32 x))], [B6, B7, B9, B10], H⟩ : St)) (fun x => ref04_do_j11 p1 p0 x = some (ra, rb)) ?_ ?_
  rintro j92 hF
  replace hF : ref04_do_j11 p1 p0 j92 = some (ra, rb) := hF
  unfold ref04_do_j11 at hF
  exact ⟨(j92, p0), hF, (by kernel_rfl)⟩
  rcases if_inv hF with ⟨h93, hF⟩ | ⟨h93, hF⟩
  refine w_cT (m := .top) h93 (s1 := S178) (by kernel_rfl) (by kernel_rfl) ?_
  refine w_reg S179 (by kernel_rfl) ?_
  exact ⟨(IntKind.wrap .u32 ((IntKind.wrap .u32 (p0.PC_ + 4)) + (IntKind.wrap .u32 (4 * (IntKind.wrap .u32 p2.Imm_))))), hF, (by kernel_rfl)⟩
  refine w_cF (m := .top) h93 (s1 := S180) (by kernel_rfl) (by kernel_rfl) ?_
  refine w_skip ?_
  exact ⟨(IntKind.wrap .u32 (p0.PC_ + 4)), hF, (by kernel_rfl)⟩
  refine w_cF (m := .top) h91 (s1 := S181) (by kernel_rfl) (by kernel_rfl) ?_
  refine w_seq ?_
  refine w_reg ⟨[E1, E2, E3, E4, E5, E11, E24, E26, E58, (179, .one .top (.bool (p2.Op_ == 22)))], [B6, B7, B8, B9, B10], H⟩ (by kernel_rfl) ?_
  refine w_join (α := (T_ref04_Cpu)) (fun x => (⟨[E1, E2, E4, E5, E137], [(3, (m1_ref04_Cpu x)), B7, B9, B10], H⟩ : St)) (fun x => ref04_do_j12 p1 p0 p2 x = some (ra, rb)) ?_ ?_
  rintro j94 hF
  replace hF : ref04_do_j12 p1 p0 p2 j94 = some (ra, rb) := hF
  unfold ref04_do_j12 at hF
  exact ⟨((IntKind.wrap .u32 ((IntKind.wrap .u32 (p0.PC_ + 4)) + (IntKind.wrap .u32 (4 * (IntKind.wrap .u32 p2.Imm_))))), j94), hF, (by kernel_rfl)⟩
  rcases if_inv hF with ⟨h95, hF⟩ | ⟨h95, hF⟩
  refine w_cT (m := .top) h95 (s1 := S178) (by kernel_rfl) (by kernel_rfl) ?_
  refine w_reg S179 (by kernel_rfl) ?_
  exact ⟨p0, hF, (by kernel_rfl)⟩
  refine w_cF (m := .top) h95 (s1 := S181) (by kernel_rfl) (by kernel_rfl) ?_
  refine w_seq ?_
  refine w_reg ⟨[E1, E2, E3, E4, E5, E11, E24, E26, (182, .one .top (.bool (p2.Op_ == 23)))], [B6, B7, B8, B9, B10], H⟩ (by kernel_rfl) ?_
  rcases if_inv hF with ⟨h96, hF⟩ | ⟨h96, hF⟩
  refine w_cT (m := .top) h96 (s1 := (⟨[E1, E2, E4, E5, E24, E26], [B6, B7, B9, B10], H⟩ : St)) (by kernel_rfl) (by kernel_rfl) ?_
  refine w_seq ?_
  refine w_reg ⟨[E1, E2, E4, E5, E26], [B138, B7, B9, B10], H⟩ (by kernel_rfl) ?_
  refine w_reg ⟨[E1, E2, E4, E5, E137], [B138, B7, B9, B10], H⟩ (by kernel_rfl) ?_
  exact ⟨(T_ref04_Cpu.mk (arrL [(p0.R_.g 0), (p0.R_.g 1), (p0.R_.g 2), (p0.R_.g 3), (p0.R_.g 4), (p0.R_.g 5), (p0.R_.g 6), (p0.R_.g 7), (p0.R_.g 8), (p0.R_.g 9), (p0.R_.g 10), (p0.R_.g 11), (p0.R_.g 12), (p0.R_.g 13), (IntKind.wrap .u32 (p0.PC_ + 4)), (p0.R_.g 15)] : Arr 16 Int) p0.PC_ p0.EPC_ p0.Cause_ p0.State_ p0.Why_ p0.Steps_ p0.Taken_ p0.Out_ p0.Entry_ p0.Vector_ p0.Guard_ p0.Limit_ p0.Input_), hF, (by kernel_rfl)⟩
  refine w_cF (m := .top) h96 (s1 := (⟨[E1, E2, E3, E4, E5, E11], [B6, B7, B8, B9, B10], H⟩ : St)) (by kernel_rfl) (by kernel_rfl) ?_
  refine w_seq ?_
  obtain ⟨r97, c98, hF⟩ := bind1_inv hF
  let B139 : EB := (6, (m1_ref04_Cpu r97))
  let E144 : EN := (81, .agg (m1_ref04_Cpu r97))
  refine w_regD (.take 0 (.take 1 (.take 2 (.take 4 (.last 3 (.last 5 (.last 6 .done))))))) (by kernel_rfl) (⟨[E4, E5], [B139, B44], H⟩ : St) ?_ ?_
  refine d_take ⟨[E1, E2, E3, E4, E5, E11, E140], [B6, B7, B8, B9, B10], H⟩ (by kernel_rfl) ?_
  refine d_take ⟨[E1, E2, E3, E4, E5, E11, E140, E141], [B6, B7, B8, B9, B10], H⟩ (by kernel_rfl) ?_
  refine d_take ⟨[E1, E2, E3, E4, E5, E11, E140, E141, E142], [B6, B7, B8, B9, B10], H⟩ (by kernel_rfl) ?_
  refine d_take S182 (by kernel_rfl) ?_
  refine d_last ⟨[E1, E2, E3, E4, E5, E11, E140, E141, E142, E144, E143], [B6, B7, B8, B9, B10], H⟩ (st_call (d := (some 81)) (fz := false) (pure := true) (own := false) S182 (ok_ref04_others H c98) (by kernel_rfl) (by kernel_rfl)) ?_
  refine d_last ⟨[E1, E2, E3, E4, E5, E11, E140, E141, E142, E144, E143], [B6, B7, B8, B139, B10], H⟩ (by kernel_rfl) ?_
  refine d_last ⟨[E1, E2, E3, E4, E5, E11, E140, E141, E142, E144, E143], [B6, B7, B8, B139, B44], H⟩ (by kernel_rfl) ?_
  exact d_end (by kernel_rfl)
  refine w_ret ?_
  obtain ⟨e0, e1⟩ := some2_inv hF
  subst e0
  subst e1
  exact fin_pure (v := .tup [.agg (m1_ref04_Cpu r97), .agg (m0_ref03_Mem p1)]) (by kernel_rfl) (by kernel_rfl) rfl (by kernel_rfl)
noncomputable def ref04_Step  (p0 : T_ref04_Cpu) (p1 : T_ref03_Mem) : Option (T_ref04_Cpu × T_ref03_Mem) :=
  if (p0.State_ != 0) = true then (some (p0, p1))
  else (bind2 (ref03_Fetch p1 p0.PC_) fun r2 r3 =>
  if (r3 != 0) = true then (bind1 (ref04_fault (T_ref04_Cpu.mk p0.R_ p0.PC_ p0.EPC_ p0.Cause_ p0.State_ p0.Why_ (IntKind.wrap .i64 (p0.Steps_ + 1)) p0.Taken_ p0.Out_ p0.Entry_ p0.Vector_ p0.Guard_ p0.Limit_ p0.Input_) r3) fun r6 =>
  some (r6, p1))
  else (bind2 (ref02_Decode r2) fun r8 r9 =>
  if (r9 != 0) = true then (bind1 (ref04_fault (T_ref04_Cpu.mk p0.R_ p0.PC_ p0.EPC_ p0.Cause_ p0.State_ p0.Why_ (IntKind.wrap .i64 (p0.Steps_ + 1)) p0.Taken_ p0.Out_ p0.Entry_ p0.Vector_ p0.Guard_ p0.Limit_ p0.Input_) r9) fun r12 =>
  some (r12, p1))
  else (bind2 (ref04_do (T_ref04_Cpu.mk p0.R_ p0.PC_ p0.EPC_ p0.Cause_ p0.State_ p0.Why_ (IntKind.wrap .i64 (p0.Steps_ + 1)) p0.Taken_ p0.Out_ p0.Entry_ p0.Vector_ p0.Guard_ p0.Limit_ p0.Input_) p1 r8) fun r14 r15 =>
  some (r14, r15))))
theorem ok_ref04_Step (H : Heap) {p0 : T_ref04_Cpu} {p1 : T_ref03_Mem} {ra : T_ref04_Cpu} {rb : T_ref03_Mem} (hF : ref04_Step p0 p1 = some (ra, rb)) : evS X 58 [.agg (m1_ref04_Cpu p0), .agg (m0_ref03_Mem p1)] H = some (.tup [.agg (m1_ref04_Cpu ra), .agg (m0_ref03_Mem rb)], H) := by
  let E1 : EN := (2, .one .top (.loc 2 0))
  let E2 : EN := (3, .one .top (.loc 3 0))
  let E3 : EN := (4, .one .top (.loc 4 0))
  let E4 : EN := (5, .one .top (.loc 5 0))
  let B5 : EB := (2, (m1_ref04_Cpu p0))
  let B6 : EB := (3, (m0_ref03_Mem p1))
  let B7 : EB := (4, (List.replicate 19 (.top, .int .u32 0) ++ List.replicate 4 (.top, .int .i64 0) ++ [((.own 1), .sl 2 (List.map e_api_Event ([] : List T_api_Event)))] ++ List.replicate 4 (.top, .int .u32 0) ++ [((.own 1), .sl 1 (List.map (eI .i32) ([] : List Int)))]))
  let B8 : EB := (5, (List.replicate 5 (.top, .int .u32 0) ++ [((.own 1), .sl 1 (List.map (eI .u32) ([] : List Int)))]))
  let B9 : EB := (4, (m1_ref04_Cpu p0))
  let B10 : EB := (5, (m0_ref03_Mem p1))
  let E11 : EN := (12, .agg (m1_ref04_Cpu p0))
  let E12 : EN := (13, .agg (m0_ref03_Mem p1))
  let B13 : EB := (2, (arM .u32 16 p0.R_ ++ [(.top, .int .u32 p0.PC_), (.top, .int .u32 p0.EPC_), (.top, .int .u32 p0.Cause_), (.top, .int .i64 p0.State_), (.top, .int .i64 p0.Why_), (.top, .int .i64 (IntKind.wrap .i64 (p0.Steps_ + 1))), (.top, .int .i64 p0.Taken_), ((.own 0), .sl 2 (List.map e_api_Event p0.Out_)), (.top, .int .u32 p0.Entry_), (.top, .int .u32 p0.Vector_), (.top, .int .u32 p0.Guard_), (.top, .int .u32 p0.Limit_), ((.own 0), .sl 1 (List.map (eI .i32) p0.Input_))]))
  let E16 : EN := (19, .agg (m0_ref03_Mem p1))
  let E17 : EN := (20, .one .top (.loc 2 16))
  let E18 : EN := (21, .one .top (.int .u32 p0.PC_))
  let E21 : EN := (27, .agg (arM .u32 16 p0.R_ ++ [(.top, .int .u32 p0.PC_), (.top, .int .u32 p0.EPC_), (.top, .int .u32 p0.Cause_), (.top, .int .i64 p0.State_), (.top, .int .i64 p0.Why_), (.top, .int .i64 (IntKind.wrap .i64 (p0.Steps_ + 1))), (.top, .int .i64 p0.Taken_), ((.own 0), .sl 2 (List.map e_api_Event p0.Out_)), (.top, .int .u32 p0.Entry_), (.top, .int .u32 p0.Vector_), (.top, .int .u32 p0.Guard_), (.top, .int .u32 p0.Limit_), ((.own 0), .sl 1 (List.map (eI .i32) p0.Input_))]))
  let E23 : EN := (30, .agg (m0_ref03_Mem p1))
  let E26 : EN := (8, .one .top (.loc 8 0))
  let E31 : EN := (38, .agg (arM .u32 16 p0.R_ ++ [(.top, .int .u32 p0.PC_), (.top, .int .u32 p0.EPC_), (.top, .int .u32 p0.Cause_), (.top, .int .i64 p0.State_), (.top, .int .i64 p0.Why_), (.top, .int .i64 (IntKind.wrap .i64 (p0.Steps_ + 1))), (.top, .int .i64 p0.Taken_), ((.own 0), .sl 2 (List.map e_api_Event p0.Out_)), (.top, .int .u32 p0.Entry_), (.top, .int .u32 p0.Vector_), (.top, .int .u32 p0.Guard_), (.top, .int .u32 p0.Limit_), ((.own 0), .sl 1 (List.map (eI .i32) p0.Input_))]))
  let E33 : EN := (41, .agg (m0_ref03_Mem p1))
  let E35 : EN := (42, .agg (arM .u32 16 p0.R_ ++ [(.top, .int .u32 p0.PC_), (.top, .int .u32 p0.EPC_), (.top, .int .u32 p0.Cause_), (.top, .int .i64 p0.State_), (.top, .int .i64 p0.Why_), (.top, .int .i64 (IntKind.wrap .i64 (p0.Steps_ + 1))), (.top, .int .i64 p0.Taken_), ((.own 0), .sl 2 (List.map e_api_Event p0.Out_)), (.top, .int .u32 p0.Entry_), (.top, .int .u32 p0.Vector_), (.top, .int .u32 p0.Guard_), (.top, .int .u32 p0.Limit_), ((.own 0), .sl 1 (List.map (eI .i32) p0.Input_))]))
  let E36 : EN := (43, .agg (m0_ref03_Mem p1))
  let S39 : St := ⟨[E1, E2, E3, E4], [B5, B6, B7, B8], H⟩
  let S40 : St := ⟨[E1, E2, E3, E4, E16, E17, E18], [B13, B6, B7, B8], H⟩
  refine w_fun Try.func58 rfl (by kernel_rfl) true (by kernel_rfl) (s0 := (⟨[(0, .agg (m1_ref04_Cpu p0)), (1, .agg (m0_ref03_Mem p1))], [], H⟩ : St)) (by kernel_rfl) ?_
  unfold ref04_Step at hF
  refine w_seq ?_
  refine w_reg S39 (by kernel_rfl) ?_
  refine w_seq ?_
  refine w_seq ?_
  refine w_reg ⟨[E1, E2, E3, E4, (11, .one .top (.bool (p0.State_ != 0)))], [B5, B6, B7, B8], H⟩ (by kernel_rfl) ?_
  rcases if_inv hF with ⟨h1, hF⟩ | ⟨h1, hF⟩
  refine w_cT (m := .top) h1 (s1 := S39) (by kernel_rfl) (by kernel_rfl) ?_
  refine w_seq ?_
  refine w_regD (.take 0 (.take 1 (.last 2 (.last 3 .done)))) (by kernel_rfl) (⟨[E3, E4], [B9, B10], H⟩ : St) ?_ ?_
  refine d_take ⟨[E1, E2, E3, E4, E11], [B5, B6, B7, B8], H⟩ (by kernel_rfl) ?_
  refine d_take ⟨[E1, E2, E3, E4, E11, E12], [B5, B6, B7, B8], H⟩ (by kernel_rfl) ?_
  refine d_last ⟨[E1, E2, E3, E4, E11, E12], [B5, B6, B9, B8], H⟩ (by kernel_rfl) ?_
  refine d_last ⟨[E1, E2, E3, E4, E11, E12], [B5, B6, B9, B10], H⟩ (by kernel_rfl) ?_
  exact d_end (by kernel_rfl)
  refine w_ret ?_
  obtain ⟨e0, e1⟩ := some2_inv hF
  subst e0
  subst e1
  exact fin_pure (v := .tup [.agg (m1_ref04_Cpu p0), .agg (m0_ref03_Mem p1)]) (by kernel_rfl) (by kernel_rfl) rfl (by kernel_rfl)
  refine w_cF (m := .top) h1 (s1 := S39) (by kernel_rfl) (by kernel_rfl) ?_
  refine w_skip ?_
  refine w_seq ?_
  refine w_reg ⟨[E1, E2, E3, E4], [B13, B6, B7, B8], H⟩ (by kernel_rfl) ?_
  refine w_seq ?_
  obtain ⟨r2, r3, c4, hF⟩ := bind2_inv hF
  let E14 : EN := (6, .one .top (.int .u32 r2))
  let E15 : EN := (7, .one .top (.int .i64 r3))
  let E19 : EN := (22, .tup [.one .top (.int .u32 r2), .one .top (.int .i64 r3)])
  let E22 : EN := (28, .one .top (.int .i64 r3))
  let E28 : EN := (32, .one .top (.int .u32 r2))
  let S41 : St := ⟨[E1, E2, E3, E4, E15, E21, E22, E23], [B13, B6, B7, B8], H⟩
  let S42 : St := ⟨[E1, E2, E3, E4, E14, E28], [B13, B6, B7, B8], H⟩
  refine w_regO ⟨[E1, E2, E3, E4, E14, E15], [B13, B6, B7, B8], H⟩ ?_ ?_
  refine o_run 3 S40 (by kernel_rfl) (by kernel_rfl) ?_
  refine o_one ⟨[E1, E2, E3, E4, E16, E17, E18, E19], [B13, B6, B7, B8], H⟩ (st_call (d := (some 22)) (fz := false) (pure := true) (own := false) S40 (ok_ref03_Fetch H c4) (by kernel_rfl) (by kernel_rfl)) ?_
  refine o_run 5 ⟨[E1, E2, E3, E4, E14, E15, (18, .tup [.one .top (.int .u32 r2), .one .top (.int .i64 r3)]), E16, E17, E18, E19, (23, .one .top (.int .u32 r2)), (24, .one .top (.int .i64 r3))], [B13, B6, B7, B8], H⟩ (by kernel_rfl) (by kernel_rfl) ?_
  exact o_end (by kernel_rfl) (by kernel_rfl)
  refine w_seq ?_
  refine w_seq ?_
  refine w_reg ⟨[E1, E2, E3, E4, E14, E15, (26, .one .top (.bool (r3 != 0)))], [B13, B6, B7, B8], H⟩ (by kernel_rfl) ?_
  rcases if_inv hF with ⟨h5, hF⟩ | ⟨h5, hF⟩
  refine w_cT (m := .top) h5 (s1 := (⟨[E1, E2, E3, E4, E15], [B13, B6, B7, B8], H⟩ : St)) (by kernel_rfl) (by kernel_rfl) ?_
  refine w_seq ?_
  obtain ⟨r6, c7, hF⟩ := bind1_inv hF
  let B20 : EB := (4, (m1_ref04_Cpu r6))
  let E24 : EN := (29, .agg (m1_ref04_Cpu r6))
  refine w_regD (.take 0 (.take 1 (.take 3 (.last 2 (.last 4 (.last 5 .done)))))) (by kernel_rfl) (⟨[E3, E4], [B20, B10], H⟩ : St) ?_ ?_
  refine d_take ⟨[E1, E2, E3, E4, E15, E21], [B13, B6, B7, B8], H⟩ (by kernel_rfl) ?_
  refine d_take ⟨[E1, E2, E3, E4, E15, E21, E22], [B13, B6, B7, B8], H⟩ (by kernel_rfl) ?_
  refine d_take S41 (by kernel_rfl) ?_
  refine d_last ⟨[E1, E2, E3, E4, E15, E21, E22, E24, E23], [B13, B6, B7, B8], H⟩ (st_call (d := (some 29)) (fz := false) (pure := true) (own := false) S41 (ok_ref04_fault H c7) (by kernel_rfl) (by kernel_rfl)) ?_
  refine d_last ⟨[E1, E2, E3, E4, E15, E21, E22, E24, E23], [B13, B6, B20, B8], H⟩ (by kernel_rfl) ?_
  refine d_last ⟨[E1, E2, E3, E4, E15, E21, E22, E24, E23], [B13, B6, B20, B10], H⟩ (by kernel_rfl) ?_
  exact d_end (by kernel_rfl)
  refine w_ret ?_
  obtain ⟨e0, e1⟩ := some2_inv hF
  subst e0
  subst e1
  exact fin_pure (v := .tup [.agg (m1_ref04_Cpu r6), .agg (m0_ref03_Mem p1)]) (by kernel_rfl) (by kernel_rfl) rfl (by kernel_rfl)
  refine w_cF (m := .top) h5 (s1 := (⟨[E1, E2, E3, E4, E14], [B13, B6, B7, B8], H⟩ : St)) (by kernel_rfl) (by kernel_rfl) ?_
  refine w_skip ?_
  refine w_seq ?_
  obtain ⟨r8, r9, c10, hF⟩ := bind2_inv hF
  let E25 : EN := (7, .one .top (.int .i64 r9))
  let B27 : EB := (8, (m0_ref02_Instr r8))
  let E29 : EN := (33, .tup [.agg (m0_ref02_Instr r8), .one .top (.int .i64 r9)])
  let E32 : EN := (39, .one .top (.int .i64 r9))
  let E37 : EN := (44, .agg (m0_ref02_Instr r8))
  let S43 : St := ⟨[E1, E2, E3, E4, E25, E31, E32, E33], [B13, B6, B7, B8], H⟩
  let S44 : St := ⟨[E1, E2, E3, E4, E26, E35, E36, E37], [B13, B6, B7, B8, B27], H⟩
  refine w_regO ⟨[E1, E2, E3, E4, E25, E26], [B13, B6, B7, B8, B27], H⟩ ?_ ?_
  refine o_run 1 S42 (by kernel_rfl) (by kernel_rfl) ?_
  refine o_one ⟨[E1, E2, E3, E4, E14, E28, E29], [B13, B6, B7, B8], H⟩ (st_call (d := (some 33)) (fz := false) (pure := true) (own := false) S42 (ok_ref02_Decode H c10) (by kernel_rfl) (by kernel_rfl)) ?_
  refine o_run 6 ⟨[E1, E2, E3, E4, E14, E25, E26, (31, .tup [.agg (m0_ref02_Instr r8), .one .top (.int .i64 r9)]), E28, E29, (34, .agg (m0_ref02_Instr r8)), (35, .one .top (.int .i64 r9))], [B13, B6, B7, B8, B27], H⟩ (by kernel_rfl) (by kernel_rfl) ?_
  exact o_end (by kernel_rfl) (by kernel_rfl)
  refine w_seq ?_
  refine w_seq ?_
  refine w_reg ⟨[E1, E2, E3, E4, E25, E26, (37, .one .top (.bool (r9 != 0)))], [B13, B6, B7, B8, B27], H⟩ (by kernel_rfl) ?_
  rcases if_inv hF with ⟨h11, hF⟩ | ⟨h11, hF⟩
  refine w_cT (m := .top) h11 (s1 := (⟨[E1, E2, E3, E4, E25], [B13, B6, B7, B8], H⟩ : St)) (by kernel_rfl) (by kernel_rfl) ?_
  refine w_seq ?_
  obtain ⟨r12, c13, hF⟩ := bind1_inv hF
  let B30 : EB := (4, (m1_ref04_Cpu r12))
  let E34 : EN := (40, .agg (m1_ref04_Cpu r12))
  refine w_regD (.take 0 (.take 1 (.take 3 (.last 2 (.last 4 (.last 5 .done)))))) (by kernel_rfl) (⟨[E3, E4], [B30, B10], H⟩ : St) ?_ ?_
  refine d_take ⟨[E1, E2, E3, E4, E25, E31], [B13, B6, B7, B8], H⟩ (by kernel_rfl) ?_
  refine d_take ⟨[E1, E2, E3, E4, E25, E31, E32], [B13, B6, B7, B8], H⟩ (by kernel_rfl) ?_
  refine d_take S43 (by kernel_rfl) ?_
  refine d_last ⟨[E1, E2, E3, E4, E25, E31, E32, E34, E33], [B13, B6, B7, B8], H⟩ (st_call (d := (some 40)) (fz := false) (pure := true) (own := false) S43 (ok_ref04_fault H c13) (by kernel_rfl) (by kernel_rfl)) ?_
  refine d_last ⟨[E1, E2, E3, E4, E25, E31, E32, E34, E33], [B13, B6, B30, B8], H⟩ (by kernel_rfl) ?_
  refine d_last ⟨[E1, E2, E3, E4, E25, E31, E32, E34, E33], [B13, B6, B30, B10], H⟩ (by kernel_rfl) ?_
  exact d_end (by kernel_rfl)
  refine w_ret ?_
  obtain ⟨e0, e1⟩ := some2_inv hF
  subst e0
  subst e1
  exact fin_pure (v := .tup [.agg (m1_ref04_Cpu r12), .agg (m0_ref03_Mem p1)]) (by kernel_rfl) (by kernel_rfl) rfl (by kernel_rfl)
  refine w_cF (m := .top) h11 (s1 := (⟨[E1, E2, E3, E4, E26], [B13, B6, B7, B8, B27], H⟩ : St)) (by kernel_rfl) (by kernel_rfl) ?_
  refine w_skip ?_
  refine w_seq ?_
  obtain ⟨r14, r15, c16, hF⟩ := bind2_inv hF
  let E38 : EN := (45, .tup [.agg (m1_ref04_Cpu r14), .agg (m0_ref03_Mem r15)])
  refine w_regO ⟨[E3, E4], [(4, (m1_ref04_Cpu r14)), (5, (m0_ref03_Mem r15))], H⟩ ?_ ?_
  refine o_run 3 S44 (by kernel_rfl) (by kernel_rfl) ?_
  refine o_one ⟨[E1, E2, E3, E4, E26, E35, E36, E37, E38], [B13, B6, B7, B8, B27], H⟩ (st_call (d := (some 45)) (fz := false) (pure := true) (own := false) S44 (ok_ref04_do H c16) (by kernel_rfl) (by kernel_rfl)) ?_
  refine o_run 4 ⟨[E1, E2, E3, E4, E26, E35, E36, E37, E38, (46, .agg (m1_ref04_Cpu r14)), (47, .agg (m0_ref03_Mem r15))], [B13, B6, (4, (m1_ref04_Cpu r14)), (5, (m0_ref03_Mem r15)), B27], H⟩ (by kernel_rfl) (by kernel_rfl) ?_
  exact o_end (by kernel_rfl) (by kernel_rfl)
  refine w_ret ?_
  obtain ⟨e0, e1⟩ := some2_inv hF
  subst e0
  subst e1
  exact fin_pure (v := .tup [.agg (m1_ref04_Cpu r14), .agg (m0_ref03_Mem r15)]) (by kernel_rfl) (by kernel_rfl) rfl (by kernel_rfl)
noncomputable def ref19_Run_L1 (p5 : Int) (a12 : Int) (a13 : T_ref03_Mem) (a14 : T_ref04_Cpu) : Option ((Int × T_ref03_Mem × T_ref04_Cpu) ⊕ ((T_ref03_Mem × T_ref04_Cpu))) :=
  if ((decide (a12 < p5)) && (a14.State_ == 0)) = true then (bind2 (ref04_Step a14 a13) fun r17 r18 =>
  some (Sum.inl ((IntKind.wrap .i64 (a12 + 1)), r18, r17)))
  else (some (Sum.inr (a13, a14)))
noncomputable def ref19_Run  (p0 : (List Int)) (p1 : (List Int)) (p2 : Int) (p3 : (List Int)) (p4 : (Arr 16 Int)) (p5 : Int) : Option (T_ref04_Cpu × T_ref03_Mem) :=
  bind1 (ref03_New (arrL [(IntKind.wrap .u32 (IntKind.wrap .i64 (4 * (p0.length : Int)))), (IntKind.wrap .u32 (IntKind.wrap .i64 (4 * (p0.length : Int)))), (IntKind.wrap .u32 ((IntKind.wrap .u32 (IntKind.wrap .i64 (4 * (p0.length : Int)))) + (IntKind.wrap .u32 (IntKind.wrap .i64 (4 * (p1.length : Int)))))), (IntKind.wrap .u32 ((IntKind.wrap .u32 ((IntKind.wrap .u32 (IntKind.wrap .i64 (4 * (p0.length : Int)))) + (IntKind.wrap .u32 (IntKind.wrap .i64 (4 * (p1.length : Int)))))) + (IntKind.wrap .u32 p2))), (IntKind.wrap .u32 ((IntKind.wrap .u32 ((IntKind.wrap .u32 ((IntKind.wrap .u32 (IntKind.wrap .i64 (4 * (p0.length : Int)))) + (IntKind.wrap .u32 (IntKind.wrap .i64 (4 * (p1.length : Int)))))) + (IntKind.wrap .u32 p2))) + (IntKind.wrap .u32 (IntKind.wrap .i64 (4 * (p3.length : Int))))))] : Arr 5 Int)) fun r1 =>
  bind2 (ref03_Fill r1 0 p0) fun r3 r4 =>
  bind2 (ref03_Fill r3 (IntKind.wrap .u32 (IntKind.wrap .i64 (4 * (p0.length : Int)))) p1) fun r6 r7 =>
  bind2 (ref03_Fill r6 (IntKind.wrap .u32 ((IntKind.wrap .u32 ((IntKind.wrap .u32 (IntKind.wrap .i64 (4 * (p0.length : Int)))) + (IntKind.wrap .u32 (IntKind.wrap .i64 (4 * (p1.length : Int)))))) + (IntKind.wrap .u32 p2))) p3) fun r9 r10 =>
  bind1 (loopO (fun (x : (Int × T_ref03_Mem × T_ref04_Cpu)) => ref19_Run_L1 p5 x.1 x.2.1 x.2.2) (0, r9, (T_ref04_Cpu.mk p4 4 0 0 0 0 0 0 ([] : List T_api_Event) 4 0 4 (IntKind.wrap .u32 ((IntKind.wrap .u32 ((IntKind.wrap .u32 (IntKind.wrap .i64 (4 * (p0.length : Int)))) + (IntKind.wrap .u32 (IntKind.wrap .i64 (4 * (p1.length : Int)))))) + (IntKind.wrap .u32 p2))) ([] : List Int)))) (tup2 fun b22 b23 =>
  some (b23, b22))
theorem ok_ref19_Run (H : Heap) {p0 : (List Int)} {p1 : (List Int)} {p2 : Int} {p3 : (List Int)} {p4 : (Arr 16 Int)} {p5 : Int} {ra : T_ref04_Cpu} {rb : T_ref03_Mem} (hF : ref19_Run p0 p1 p2 p3 p4 p5 = some (ra, rb)) : evS X 38 [.one .ro (.sl 1 (List.map (eI .u32) p0)), .one (.own 1) (.sl 1 (List.map (eI .u32) p1)), .one .top (.int .i64 p2), .one .bl (.sl 1 (List.map (eI .u32) p3)), .agg (arM .u32 16 p4), .one .top (.int .i64 p5)] H = some (.tup [.agg (m1_ref04_Cpu ra), .agg (m0_ref03_Mem rb)], H) := by
  let E1 : EN := (0, .one .ro (.sl 1 (List.map (eI .u32) p0)))
  let E2 : EN := (1, .one (.own 1) (.sl 1 (List.map (eI .u32) p1)))
  let E3 : EN := (2, .one .top (.int .i64 p2))
  let E4 : EN := (3, .one .bl (.sl 1 (List.map (eI .u32) p3)))
  let E5 : EN := (5, .one .top (.int .i64 p5))
  let E6 : EN := (10, .one .top (.loc 10 0))
  let E7 : EN := (12, .one .top (.loc 12 0))
  let E8 : EN := (13, .one .top (.loc 13 0))
  let B9 : EB := (10, (arM .u32 16 p4))
  let B10 : EB := (12, (List.replicate 19 (.top, .int .u32 0) ++ List.replicate 4 (.top, .int .i64 0) ++ [((.own 1), .sl 2 (List.map e_api_Event ([] : List T_api_Event)))] ++ List.replicate 4 (.top, .int .u32 0) ++ [((.own 1), .sl 1 (List.map (eI .i32) ([] : List Int)))]))
  let B11 : EB := (13, (List.replicate 5 (.top, .int .u32 0) ++ [((.own 1), .sl 1 (List.map (eI .u32) ([] : List Int)))]))
  let E12 : EN := (14, .one .top (.int .u32 (IntKind.wrap .u32 (IntKind.wrap .i64 (4 * (p0.length : Int))))))
  let E13 : EN := (20, .one .ro (.sl 1 (List.map (eI .u32) p0)))
  let E14 : EN := (21, .one .top (.int .i64 (p0.length : Int)))
  let E15 : EN := (15, .one .top (.int .u32 (IntKind.wrap .u32 ((IntKind.wrap .u32 (IntKind.wrap .i64 (4 * (p0.length : Int)))) + (IntKind.wrap .u32 (IntKind.wrap .i64 (4 * (p1.length : Int))))))))
  let E16 : EN := (24, .one .top (.int .u32 (IntKind.wrap .u32 (IntKind.wrap .i64 (4 * (p0.length : Int))))))
  let E17 : EN := (25, .one .bl (.sl 1 (List.map (eI .u32) p1)))
  let E18 : EN := (26, .one .top (.int .i64 (p1.length : Int)))
  let E19 : EN := (16, .one .top (.int .u32 (IntKind.wrap .u32 ((IntKind.wrap .u32 ((IntKind.wrap .u32 (IntKind.wrap .i64 (4 * (p0.length : Int)))) + (IntKind.wrap .u32 (IntKind.wrap .i64 (4 * (p1.length : Int)))))) + (IntKind.wrap .u32 p2)))))
  let E20 : EN := (17, .one .top (.loc 17 0))
  let E22 : EN := (34, .one .top (.int .u32 (IntKind.wrap .u32 (IntKind.wrap .i64 (4 * (p0.length : Int))))))
  let E23 : EN := (35, .one .top (.int .u32 (IntKind.wrap .u32 (IntKind.wrap .i64 (4 * (p0.length : Int))))))
  let E24 : EN := (36, .one .top (.int .u32 (IntKind.wrap .u32 ((IntKind.wrap .u32 (IntKind.wrap .i64 (4 * (p0.length : Int)))) + (IntKind.wrap .u32 (IntKind.wrap .i64 (4 * (p1.length : Int))))))))
  let E25 : EN := (37, .one .top (.int .u32 (IntKind.wrap .u32 ((IntKind.wrap .u32 ((IntKind.wrap .u32 (IntKind.wrap .i64 (4 * (p0.length : Int)))) + (IntKind.wrap .u32 (IntKind.wrap .i64 (4 * (p1.length : Int)))))) + (IntKind.wrap .u32 p2)))))
  let E26 : EN := (38, .one .top (.int .u32 (IntKind.wrap .u32 ((IntKind.wrap .u32 ((IntKind.wrap .u32 (IntKind.wrap .i64 (4 * (p0.length : Int)))) + (IntKind.wrap .u32 (IntKind.wrap .i64 (4 * (p1.length : Int)))))) + (IntKind.wrap .u32 p2)))))
  let E27 : EN := (39, .one .bl (.sl 1 (List.map (eI .u32) p3)))
  let E28 : EN := (40, .one .top (.int .i64 (p3.length : Int)))
  let E29 : EN := (41, .one .top (.int .i64 (IntKind.wrap .i64 (4 * (p3.length : Int)))))
  let E30 : EN := (42, .one .top (.int .u32 (IntKind.wrap .u32 (IntKind.wrap .i64 (4 * (p3.length : Int))))))
  let E31 : EN := (43, .one .top (.int .u32 (IntKind.wrap .u32 ((IntKind.wrap .u32 ((IntKind.wrap .u32 ((IntKind.wrap .u32 (IntKind.wrap .i64 (4 * (p0.length : Int)))) + (IntKind.wrap .u32 (IntKind.wrap .i64 (4 * (p1.length : Int)))))) + (IntKind.wrap .u32 p2))) + (IntKind.wrap .u32 (IntKind.wrap .i64 (4 * (p3.length : Int))))))))
  let E32 : EN := (44, .agg [(.top, .int .u32 (IntKind.wrap .u32 (IntKind.wrap .i64 (4 * (p0.length : Int))))), (.top, .int .u32 (IntKind.wrap .u32 (IntKind.wrap .i64 (4 * (p0.length : Int))))), (.top, .int .u32 (IntKind.wrap .u32 ((IntKind.wrap .u32 (IntKind.wrap .i64 (4 * (p0.length : Int)))) + (IntKind.wrap .u32 (IntKind.wrap .i64 (4 * (p1.length : Int))))))), (.top, .int .u32 (IntKind.wrap .u32 ((IntKind.wrap .u32 ((IntKind.wrap .u32 (IntKind.wrap .i64 (4 * (p0.length : Int)))) + (IntKind.wrap .u32 (IntKind.wrap .i64 (4 * (p1.length : Int)))))) + (IntKind.wrap .u32 p2)))), (.top, .int .u32 (IntKind.wrap .u32 ((IntKind.wrap .u32 ((IntKind.wrap .u32 ((IntKind.wrap .u32 (IntKind.wrap .i64 (4 * (p0.length : Int)))) + (IntKind.wrap .u32 (IntKind.wrap .i64 (4 * (p1.length : Int)))))) + (IntKind.wrap .u32 p2))) + (IntKind.wrap .u32 (IntKind.wrap .i64 (4 * (p3.length : Int)))))))])
  let E36 : EN := (48, .one .ro (.sl 1 (List.map (eI .u32) p0)))
  let E40 : EN := (54, .one .top (.int .u32 (IntKind.wrap .u32 (IntKind.wrap .i64 (4 * (p0.length : Int))))))
  let E41 : EN := (55, .one .bl (.sl 1 (List.map (eI .u32) p1)))
  let E45 : EN := (61, .one .top (.int .u32 (IntKind.wrap .u32 ((IntKind.wrap .u32 ((IntKind.wrap .u32 (IntKind.wrap .i64 (4 * (p0.length : Int)))) + (IntKind.wrap .u32 (IntKind.wrap .i64 (4 * (p1.length : Int)))))) + (IntKind.wrap .u32 p2)))))
  let E46 : EN := (62, .one .bl (.sl 1 (List.map (eI .u32) p3)))
  let E48 : EN := (18, .one .top (.loc 18 0))
  let B49 : EB := (18, (arM .u32 16 p4 ++ [(.top, .int .u32 4), (.top, .int .u32 0), (.top, .int .u32 0)] ++ List.replicate 4 (.top, .int .i64 0) ++ [((.own 0), .sl 2 (List.map e_api_Event ([] : List T_api_Event))), (.top, .int .u32 4), (.top, .int .u32 0), (.top, .int .u32 4), (.top, .int .u32 (IntKind.wrap .u32 ((IntKind.wrap .u32 ((IntKind.wrap .u32 (IntKind.wrap .i64 (4 * (p0.length : Int)))) + (IntKind.wrap .u32 (IntKind.wrap .i64 (4 * (p1.length : Int)))))) + (IntKind.wrap .u32 p2)))), ((.own 0), .sl 1 (List.map (eI .i32) ([] : List Int)))]))
  let E54 : EN := (70, .one .top (.int .i64 p5))
  let S65 : St := ⟨[E1, E2, E3, E4, E5, E6, E7, E8, E13], [B9, B10, B11], H⟩
  let S66 : St := ⟨[E1, E2, E3, E4, E5, E6, E7, E8, E12, E16, E17], [B9, B10, B11], H⟩
  let S67 : St := ⟨[E1, E2, E4, E5, E6, E7, E8, E12, E15, E19, E22, E23, E24, E25, E26, E27], [B9, B10, B11], H⟩
  let S68 : St := ⟨[E1, E2, E4, E5, E6, E7, E8, E12, E15, E19, E22, E23, E24, E25, E26, E27, E28, E29, E30, E31, E32], [B9, B10, B11], H⟩
  refine w_fun Try.func38 rfl (by kernel_rfl) true (by kernel_rfl) (s0 := (⟨[E1, E2, E3, E4, (4, .agg (arM .u32 16 p4)), E5], [], H⟩ : St)) (by kernel_rfl) ?_
  unfold ref19_Run at hF
  refine w_seq ?_
  refine w_reg ⟨[E1, E2, E3, E4, E5, E6, E7, E8], [B9, B10, B11], H⟩ (by kernel_rfl) ?_
  refine w_seq ?_
  refine w_regO ⟨[E1, E2, E3, E4, E5, E6, E7, E8, E12], [B9, B10, B11], H⟩ ?_ ?_
  refine o_run 1 S65 (by kernel_rfl) (by kernel_rfl) ?_
  refine o_one ⟨[E1, E2, E3, E4, E5, E6, E7, E8, E13, E14], [B9, B10, B11], H⟩ (st_len S65 p0 (eI .u32) (some 21) (by kernel_rfl) (by kernel_rfl)) ?_
  refine o_run 3 ⟨[E1, E2, E3, E4, E5, E6, E7, E8, E12, E13, E14, (22, .one .top (.int .i64 (IntKind.wrap .i64 (4 * (p0.length : Int))))), (23, .one .top (.int .u32 (IntKind.wrap .u32 (IntKind.wrap .i64 (4 * (p0.length : Int))))))], [B9, B10, B11], H⟩ (by kernel_rfl) (by kernel_rfl) ?_
  exact o_end (by kernel_rfl) (by kernel_rfl)
  refine w_seq ?_
  refine w_regO ⟨[E1, E2, E3, E4, E5, E6, E7, E8, E12, E15], [B9, B10, B11], H⟩ ?_ ?_
  refine o_run 2 S66 (by kernel_rfl) (by kernel_rfl) ?_
  refine o_one ⟨[E1, E2, E3, E4, E5, E6, E7, E8, E12, E16, E17, E18], [B9, B10, B11], H⟩ (st_len S66 p1 (eI .u32) (some 26) (by kernel_rfl) (by kernel_rfl)) ?_
  refine o_run 4 ⟨[E1, E2, E3, E4, E5, E6, E7, E8, E12, E15, E16, E17, E18, (27, .one .top (.int .i64 (IntKind.wrap .i64 (4 * (p1.length : Int))))), (28, .one .top (.int .u32 (IntKind.wrap .u32 (IntKind.wrap .i64 (4 * (p1.length : Int)))))), (29, .one .top (.int .u32 (IntKind.wrap .u32 ((IntKind.wrap .u32 (IntKind.wrap .i64 (4 * (p0.length : Int)))) + (IntKind.wrap .u32 (IntKind.wrap .i64 (4 * (p1.length : Int))))))))], [B9, B10, B11], H⟩ (by kernel_rfl) (by kernel_rfl) ?_
  exact o_end (by kernel_rfl) (by kernel_rfl)
  refine w_seq ?_
  refine w_reg ⟨[E1, E2, E4, E5, E6, E7, E8, E12, E15, E19], [B9, B10, B11], H⟩ (by kernel_rfl) ?_
  refine w_seq ?_
  obtain ⟨r1, c2, hF⟩ := bind1_inv hF
  let B21 : EB := (17, (m0_ref03_Mem r1))
  let E33 : EN := (45, .agg (m0_ref03_Mem r1))
  let E35 : EN := (47, .agg (m0_ref03_Mem r1))
  let S69 : St := ⟨[E1, E2, E4, E5, E6, E7, E8, E12, E19, E20, E35, E36], [B9, B10, B11, B21], H⟩
  refine w_regO ⟨[E1, E2, E4, E5, E6, E7, E8, E12, E19, E20], [B9, B10, B11, B21], H⟩ ?_ ?_
  refine o_run 6 S67 (by kernel_rfl) (by kernel_rfl) ?_
  refine o_one ⟨[E1, E2, E4, E5, E6, E7, E8, E12, E15, E19, E22, E23, E24, E25, E26, E27, E28], [B9, B10, B11], H⟩ (st_len S67 p3 (eI .u32) (some 40) (by kernel_rfl) (by kernel_rfl)) ?_
  refine o_run 4 S68 (by kernel_rfl) (by kernel_rfl) ?_
  refine o_one ⟨[E1, E2, E4, E5, E6, E7, E8, E12, E15, E19, E22, E23, E24, E25, E26, E27, E28, E29, E30, E31, E32, E33], [B9, B10, B11], H⟩ (st_call (d := (some 45)) (fz := false) (pure := true) (own := false) S68 (ok_ref03_New H c2) (by kernel_rfl) (by kernel_rfl)) ?_
  refine o_run 2 ⟨[E1, E2, E4, E5, E6, E7, E8, E12, E15, E19, E20, E22, E23, E24, E25, E26, E27, E28, E29, E30, E31, E32, E33], [B9, B10, B11, B21], H⟩ (by kernel_rfl) (by kernel_rfl) ?_
  exact o_end (by kernel_rfl) (by kernel_rfl)
  refine w_seq ?_
  obtain ⟨r3, r4, c5, hF⟩ := bind2_inv hF
  let B34 : EB := (17, (m0_ref03_Mem r3))
  let E37 : EN := (49, .tup [.agg (m0_ref03_Mem r3), .one .top (.int .i64 r4)])
  let E39 : EN := (53, .agg (m0_ref03_Mem r3))
  let S70 : St := ⟨[E2, E4, E5, E6, E7, E8, E12, E19, E20, E39, E40, E41], [B9, B10, B11, B34], H⟩
  refine w_regO ⟨[E2, E4, E5, E6, E7, E8, E12, E19, E20], [B9, B10, B11, B34], H⟩ ?_ ?_
  refine o_run 2 S69 (by kernel_rfl) (by kernel_rfl) ?_
  refine o_one ⟨[E1, E2, E4, E5, E6, E7, E8, E12, E19, E20, E35, E36, E37], [B9, B10, B11, B21], H⟩ (st_call (d := (some 49)) (fz := false) (pure := true) (own := false) S69 (ok_ref03_Fill H c5) (by kernel_rfl) (by kernel_rfl)) ?_
  refine o_run 4 ⟨[E1, E2, E4, E5, E6, E7, E8, E12, E19, E20, (46, .tup [.agg (m0_ref03_Mem r3), .one .top (.int .i64 r4)]), E35, E36, E37, (50, .agg (m0_ref03_Mem r3)), (51, .one .top (.int .i64 r4))], [B9, B10, B11, B34], H⟩ (by kernel_rfl) (by kernel_rfl) ?_
  exact o_end (by kernel_rfl) (by kernel_rfl)
  refine w_seq ?_
  obtain ⟨r6, r7, c8, hF⟩ := bind2_inv hF
  let B38 : EB := (17, (m0_ref03_Mem r6))
  let E42 : EN := (56, .tup [.agg (m0_ref03_Mem r6), .one .top (.int .i64 r7)])
  let E44 : EN := (60, .agg (m0_ref03_Mem r6))
  let S71 : St := ⟨[E4, E5, E6, E7, E8, E19, E20, E44, E45, E46], [B9, B10, B11, B38], H⟩
  refine w_regO ⟨[E4, E5, E6, E7, E8, E19, E20], [B9, B10, B11, B38], H⟩ ?_ ?_
  refine o_run 3 S70 (by kernel_rfl) (by kernel_rfl) ?_
  refine o_one ⟨[E2, E4, E5, E6, E7, E8, E12, E19, E20, E39, E40, E41, E42], [B9, B10, B11, B34], H⟩ (st_call (d := (some 56)) (fz := false) (pure := true) (own := false) S70 (ok_ref03_Fill H c8) (by kernel_rfl) (by kernel_rfl)) ?_
  refine o_run 4 ⟨[E2, E4, E5, E6, E7, E8, E12, E19, E20, (52, .tup [.agg (m0_ref03_Mem r6), .one .top (.int .i64 r7)]), E39, E40, E41, E42, (57, .agg (m0_ref03_Mem r6)), (58, .one .top (.int .i64 r7))], [B9, B10, B11, B38], H⟩ (by kernel_rfl) (by kernel_rfl) ?_
  exact o_end (by kernel_rfl) (by kernel_rfl)
  refine w_seq ?_
  obtain ⟨r9, r10, c11, hF⟩ := bind2_inv hF
  let B43 : EB := (17, (m0_ref03_Mem r9))
  let E47 : EN := (63, .tup [.agg (m0_ref03_Mem r9), .one .top (.int .i64 r10)])
  refine w_regO ⟨[E5, E6, E7, E8, E19, E20], [B9, B10, B11, B43], H⟩ ?_ ?_
  refine o_run 3 S71 (by kernel_rfl) (by kernel_rfl) ?_
  refine o_one ⟨[E4, E5, E6, E7, E8, E19, E20, E44, E45, E46, E47], [B9, B10, B11, B38], H⟩ (st_call (d := (some 63)) (fz := false) (pure := true) (own := false) S71 (ok_ref03_Fill H c11) (by kernel_rfl) (by kernel_rfl)) ?_
  refine o_run 4 ⟨[E4, E5, E6, E7, E8, E19, E20, (59, .tup [.agg (m0_ref03_Mem r9), .one .top (.int .i64 r10)]), E44, E45, E46, E47, (64, .agg (m0_ref03_Mem r9)), (65, .one .top (.int .i64 r10))], [B9, B10, B11, B43], H⟩ (by kernel_rfl) (by kernel_rfl) ?_
  exact o_end (by kernel_rfl) (by kernel_rfl)
  refine w_seq ?_
  refine w_reg ⟨[E5, E7, E8, E20, E48], [B10, B11, B43, B49], H⟩ (by kernel_rfl) ?_
  refine w_seq ?_
  refine w_seq ?_
  refine w_reg ⟨[E5, E7, E8, E20, E48, (19, .one .top (.int .i64 0))], [B10, B11, B43, B49], H⟩ (by kernel_rfl) ?_
  refine w_block ?_
  obtain ⟨r20, hL21, hF⟩ := bind1_inv hF
  refine w_loop (fun (x : (Int × T_ref03_Mem × T_ref04_Cpu)) => (⟨[E5, E7, E8, E20, E48, (19, .one .top (.int .i64 x.1))], [B10, B11, (17, (m0_ref03_Mem x.2.1)), (18, (m1_ref04_Cpu x.2.2))], H⟩ : St)) (fun (y : (T_ref03_Mem × T_ref04_Cpu)) => ((.exit 0, (⟨[E7, E8, E20, E48], [B10, B11, (17, (m0_ref03_Mem y.1)), (18, (m1_ref04_Cpu y.2))], H⟩ : St)) : Ex × St)) hL21 (by kernel_rfl) ?_ ?_
  rintro ⟨a12, a13, a14⟩ o hF
  replace hF : ref19_Run_L1 p5 a12 a13 a14 = some o := hF
  let E50 : EN := (19, .one .top (.int .i64 a12))
  let B51 : EB := (17, (m0_ref03_Mem a13))
  let B52 : EB := (18, (m1_ref04_Cpu a14))
  let E53 : EN := (69, .one .top (.int .i64 a12))
  let E57 : EN := (80, .agg (m1_ref04_Cpu a14))
  let E58 : EN := (81, .agg (m0_ref03_Mem a13))
  let S72 : St := ⟨[E5, E7, E8, E20, E48, E50, E57, E58], [B10, B11, B51, B52], H⟩
  unfold ref19_Run_L1 at hF
  refine w_seq ?_
  refine w_seq ?_
  refine w_regO ⟨[E5, E7, E8, E20, E48, E50, (76, .one .top (.bool ((decide (a12 < p5)) && (a14.State_ == 0))))], [B10, B11, B51, B52], H⟩ ?_ ?_
  refine o_run 4 ⟨[E5, E7, E8, E20, E48, E50, E53, E54, (71, .one .top (.bool (decide (a12 < p5)))), (72, .one .top (.bool (decide (a12 < p5))))], [B10, B11, B51, B52], H⟩ (by kernel_rfl) (by kernel_rfl) ?_
  rcases bool_cases (decide (a12 < p5)) with h15 | h15
  refine o_eq (congrArg (fun q => (⟨[E5, E7, E8, E20, E48, E50, E53, E54, (71, .one .top (.bool q)), (72, .one .top (.bool q))], [B10, B11, B51, B52], H⟩ : St)) h15) ?_
  refine o_run 4 ⟨[E5, E7, E8, E20, E48, E50, E53, E54, (71, .one .top (.bool true)), (72, .one .top (.bool true)), (73, .one .top (.loc 18 19)), (74, .one .top (.int .i64 a14.State_)), (75, .one .top (.bool (a14.State_ == 0))), (76, .one .top (.bool (a14.State_ == 0)))], [B10, B11, B51, B52], H⟩ (by kernel_rfl) (by kernel_rfl) ?_
  refine o_eq2 (congrArg (fun q0 => (⟨[E5, E7, E8, E20, E48, E50, (76, .one .top (.bool q0))], [B10, B11, B51, B52], H⟩ : St)) (show (a14.State_ == 0) = ((decide (a12 < p5)) && (a14.State_ == 0)) by simp [h15])) ?_
  exact o_end (by kernel_rfl) (by kernel_rfl)
  refine o_eq (congrArg (fun q => (⟨[E5, E7, E8, E20, E48, E50, E53, E54, (71, .one .top (.bool q)), (72, .one .top (.bool q))], [B10, B11, B51, B52], H⟩ : St)) h15) ?_
  refine o_run 4 ⟨[E5, E7, E8, E20, E48, E50, E53, E54, (71, .one .top (.bool false)), (72, .one .top (.bool false)), (73, .tup []), (74, .tup []), (75, .tup []), (76, .one .top (.bool false))], [B10, B11, B51, B52], H⟩ (by kernel_rfl) (by kernel_rfl) ?_
  refine o_eq2 (congrArg (fun q0 => (⟨[E5, E7, E8, E20, E48, E50, (76, .one .top (.bool q0))], [B10, B11, B51, B52], H⟩ : St)) (show false = ((decide (a12 < p5)) && (a14.State_ == 0)) by simp [h15])) ?_
  exact o_end (by kernel_rfl) (by kernel_rfl)
  rcases if_inv hF with ⟨h16, hF⟩ | ⟨h16, hF⟩
  refine w_cT (m := .top) h16 (s1 := (⟨[E5, E7, E8, E20, E48, E50], [B10, B11, B51, B52], H⟩ : St)) (by kernel_rfl) (by kernel_rfl) ?_
  refine w_skip ?_
  refine w_seq ?_
  refine w_block ?_
  obtain ⟨r17, r18, c19, hF⟩ := bind2_inv hF
  let B55 : EB := (17, (m0_ref03_Mem r18))
  let B56 : EB := (18, (m1_ref04_Cpu r17))
  let E59 : EN := (82, .tup [.agg (m1_ref04_Cpu r17), .agg (m0_ref03_Mem r18)])
  refine w_regO ⟨[E5, E7, E8, E20, E48, E50], [B10, B11, B55, B56], H⟩ ?_ ?_
  refine o_run 2 S72 (by kernel_rfl) (by kernel_rfl) ?_
  refine o_one ⟨[E5, E7, E8, E20, E48, E50, E57, E58, E59], [B10, B11, B51, B52], H⟩ (st_call (d := (some 82)) (fz := false) (pure := true) (own := false) S72 (ok_ref04_Step H c19) (by kernel_rfl) (by kernel_rfl)) ?_
  refine o_run 5 ⟨[E5, E7, E8, E20, E48, E50, (79, .tup [.agg (m1_ref04_Cpu r17), .agg (m0_ref03_Mem r18)]), E57, E58, E59, (83, .agg (m1_ref04_Cpu r17)), (84, .agg (m0_ref03_Mem r18))], [B10, B11, B55, B56], H⟩ (by kernel_rfl) (by kernel_rfl) ?_
  exact o_end (by kernel_rfl) (by kernel_rfl)
  refine w_reg ⟨[E5, E7, E8, E20, E48, (19, .one .top (.int .i64 (IntKind.wrap .i64 (a12 + 1))))], [B10, B11, B55, B56], H⟩ (by kernel_rfl) ?_
  cases hF
  exact ⟨_, rfl, (by kernel_rfl)⟩
  refine w_cF (m := .top) h16 (s1 := (⟨[E7, E8, E20, E48], [B10, B11, B51, B52], H⟩ : St)) (by kernel_rfl) (by kernel_rfl) ?_
  refine w_exit ?_
  cases hF
  exact ⟨_, rfl, (by kernel_rfl)⟩
  obtain ⟨b22, b23⟩ := r20
  replace hF := tup2_inv hF
  let B60 : EB := (17, (m0_ref03_Mem b22))
  let B61 : EB := (18, (m1_ref04_Cpu b23))
  let B62 : EB := (12, (m1_ref04_Cpu b23))
  let E63 : EN := (85, .agg (m1_ref04_Cpu b23))
  let E64 : EN := (86, .agg (m0_ref03_Mem b22))
  refine w_oe (i := 0) (s := (⟨[E7, E8, E20, E48], [B10, B11, B60, B61], H⟩ : St)) (by kernel_rfl) ?_
  refine e_here ?_
  refine w_seq ?_
  refine w_regD (.take 0 (.take 1 (.last 2 (.last 3 .done)))) (by kernel_rfl) (⟨[E7, E8], [B62, (13, (m0_ref03_Mem b22))], H⟩ : St) ?_ ?_
  refine d_take ⟨[E7, E8, E20, E48, E63], [B10, B11, B60, B61], H⟩ (by kernel_rfl) ?_
  refine d_take ⟨[E7, E8, E20, E48, E63, E64], [B10, B11, B60, B61], H⟩ (by kernel_rfl) ?_
  refine d_last ⟨[E7, E8, E20, E48, E63, E64], [B62, B11, B60, B61], H⟩ (by kernel_rfl) ?_
  refine d_last ⟨[E7, E8, E20, E48, E63, E64], [B62, (13, (m0_ref03_Mem b22)), B60, B61], H⟩ (by kernel_rfl) ?_
  exact d_end (by kernel_rfl)
  refine w_ret ?_
  obtain ⟨e0, e1⟩ := some2_inv hF
  subst e0
  subst e1
  exact fin_pure (v := .tup [.agg (m1_ref04_Cpu b23), .agg (m0_ref03_Mem b22)]) (by kernel_rfl) (by kernel_rfl) rfl (by kernel_rfl)
noncomputable def law19_run  (p0 : Ptr) (p1 : (List Int)) : Option (T_ref04_Cpu) :=
  bind1 (mks 4 64 64 0) fun v1 =>
  bind2 (ref19_Run p1 ([] : List Int) 0 v1 (arrL [0, 0, 0, 0, 0, 0, 0, 0, 0, 0, 0, 0, 0, (IntKind.wrap .u32 ((IntKind.wrap .u32 (IntKind.wrap .i64 ((IntKind.wrap .i64 (4 * (p1.length : Int))) + 256))) - 64)), 0, (IntKind.wrap .u32 (IntKind.wrap .i64 ((IntKind.wrap .i64 (4 * (p1.length : Int))) + 256)))] : Arr 16 Int) 5000) fun r3 r4 =>
  some r3
theorem ok_law19_run (H : Heap) {p0 : Ptr} {p1 : (List Int)} {ra : T_ref04_Cpu} (hF : law19_run p0 p1 = some ra) : evS X 24 [.one .top (Ptr.av p0), .one .ro (.sl 1 (List.map (eI .u32) p1))] H = some (.agg (m1_ref04_Cpu ra), H) := by
  let E1 : EN := (1, .one .ro (.sl 1 (List.map (eI .u32) p1)))
  let E2 : EN := (4, .one .top (.loc 4 0))
  let B3 : EB := (4, (List.replicate 19 (.top, .int .u32 0) ++ List.replicate 4 (.top, .int .i64 0) ++ [((.own 1), .sl 2 (List.map e_api_Event ([] : List T_api_Event)))] ++ List.replicate 4 (.top, .int .u32 0) ++ [((.own 1), .sl 1 (List.map (eI .i32) ([] : List Int)))]))
  let E4 : EN := (5, .one .top (.loc 5 0))
  let B5 : EB := (5, (List.replicate 16 (.top, .int .u32 0)))
  let B7 : EB := (5, (List.replicate 15 (.top, .int .u32 0) ++ [(.top, .int .u32 (IntKind.wrap .u32 (IntKind.wrap .i64 ((IntKind.wrap .i64 (4 * (p1.length : Int))) + 256))))]))
  let E8 : EN := (10, .one .ro (.sl 1 (List.map (eI .u32) p1)))
  let E9 : EN := (11, .one .top (.int .i64 (p1.length : Int)))
  let B10 : EB := (5, (List.replicate 13 (.top, .int .u32 0) ++ [(.top, .int .u32 (IntKind.wrap .u32 ((IntKind.wrap .u32 (IntKind.wrap .i64 ((IntKind.wrap .i64 (4 * (p1.length : Int))) + 256))) - 64))), (.top, .int .u32 0), (.top, .int .u32 (IntKind.wrap .u32 (IntKind.wrap .i64 ((IntKind.wrap .i64 (4 * (p1.length : Int))) + 256))))]))
  let E11 : EN := (21, .one .ro (.sl 1 (List.map (eI .u32) p1)))
  let E13 : EN := (23, .agg (List.replicate 13 (.top, .int .u32 0) ++ [(.top, .int .u32 (IntKind.wrap .u32 ((IntKind.wrap .u32 (IntKind.wrap .i64 ((IntKind.wrap .i64 (4 * (p1.length : Int))) + 256))) - 64))), (.top, .int .u32 0), (.top, .int .u32 (IntKind.wrap .u32 (IntKind.wrap .i64 ((IntKind.wrap .i64 (4 * (p1.length : Int))) + 256))))]))
  let S15 : St := ⟨[E1, E2, E4], [B3, B5], H⟩
  refine w_fun Try.func24 rfl (by kernel_rfl) true (by kernel_rfl) (s0 := (⟨[(0, .one .top (Ptr.av p0)), E1], [], H⟩ : St)) (by kernel_rfl) ?_
  unfold law19_run at hF
  refine w_seq ?_
  refine w_reg ⟨[E1, E2], [B3], H⟩ (by generalize p0 = qp0; cases qp0 <;> kernel_rfl) ?_
  refine w_seq ?_
  refine w_reg S15 (by kernel_rfl) ?_
  refine w_seq ?_
  obtain ⟨v1, h2, hF⟩ := bind1_inv hF
  let E6 : EN := (6, .one (.own 1) (.sl 1 (List.map (eI .u32) v1)))
  let E12 : EN := (22, .one .bl (.sl 1 (List.map (eI .u32) v1)))
  let S16 : St := ⟨[E1, E2, E4, E6, E8], [B3, B5], H⟩
  let S17 : St := ⟨[E1, E2, E4, E6, E11, E12, E13], [B3, B10], H⟩
  refine w_regO ⟨[E1, E2, E4, E6], [B3, B5], H⟩ ?_ ?_
  refine o_one ⟨[E1, E2, E4, (9, .one (.own 1) (.sl 1 (List.map (eI .u32) v1)))], [B3, B5], H⟩ (st_mk (X := X) S15 4 h2 42 35 1 [(.top, .int .u32 0)] (eI .u32) 0 (.i64) (.i64) (some 9) (by kernel_rfl) (by kernel_rfl) (by kernel_rfl) (by kernel_rfl) (by kernel_rfl) (by kernel_rfl) (by kernel_rfl) (by kernel_rfl) (by kernel_rfl) (by kernel_rfl)) ?_
  refine o_run 1 ⟨[E1, E2, E4, E6, (9, .one .top .junk)], [B3, B5], H⟩ (by kernel_rfl) (by kernel_rfl) ?_
  exact o_end (by kernel_rfl) (by kernel_rfl)
  refine w_seq ?_
  refine w_regO ⟨[E1, E2, E4, E6], [B3, B7], H⟩ ?_ ?_
  refine o_run 1 S16 (by kernel_rfl) (by kernel_rfl) ?_
  refine o_one ⟨[E1, E2, E4, E6, E8, E9], [B3, B5], H⟩ (st_len S16 p1 (eI .u32) (some 11) (by kernel_rfl) (by kernel_rfl)) ?_
  refine o_run 5 ⟨[E1, E2, E4, E6, E8, E9, (12, .one .top (.int .i64 (IntKind.wrap .i64 (4 * (p1.length : Int))))), (13, .one .top (.int .i64 (IntKind.wrap .i64 ((IntKind.wrap .i64 (4 * (p1.length : Int))) + 256)))), (14, .one .top (.int .u32 (IntKind.wrap .u32 (IntKind.wrap .i64 ((IntKind.wrap .i64 (4 * (p1.length : Int))) + 256))))), (15, .one .top (.loc 5 15))], [B3, B7], H⟩ (by kernel_rfl) (by kernel_rfl) ?_
  exact o_end (by kernel_rfl) (by kernel_rfl)
  refine w_seq ?_
  refine w_reg ⟨[E1, E2, E4, E6], [B3, B10], H⟩ (by kernel_rfl) ?_
  refine w_seq ?_
  obtain ⟨r3, r4, c5, hF⟩ := bind2_inv hF
  let E14 : EN := (24, .tup [.agg (m1_ref04_Cpu r3), .agg (m0_ref03_Mem r4)])
  refine w_regO ⟨[E2, (7, .one .top (.loc 7 0))], [B3, (7, (m1_ref04_Cpu r3))], H⟩ ?_ ?_
  refine o_run 3 S17 (by kernel_rfl) (by kernel_rfl) ?_
  refine o_one ⟨[E1, E2, E4, E6, E11, (22, .one .top .junk), E13, E14], [B3, B10], H⟩ (st_call (d := (some 24)) (fz := false) (pure := true) (own := true) S17 (ok_ref19_Run H c5) (by kernel_rfl) (by kernel_rfl)) ?_
  refine o_run 7 ⟨[E1, E2, E4, E6, (7, .one .top (.loc 7 0)), (8, .one .top (.loc 8 0)), (20, .tup [.agg (m1_ref04_Cpu r3), .agg (m0_ref03_Mem r4)]), E11, (22, .one .top .junk), E13, E14, (25, .agg (m1_ref04_Cpu r3)), (26, .agg (m0_ref03_Mem r4))], [B3, B10, (7, (m1_ref04_Cpu r3)), (8, (m0_ref03_Mem r4))], H⟩ (by kernel_rfl) (by kernel_rfl) ?_
  exact o_end (by kernel_rfl) (by kernel_rfl)
  refine w_seq ?_
  refine w_reg ⟨[E2], [(4, (m1_ref04_Cpu r3))], H⟩ (by kernel_rfl) ?_
  refine w_ret ?_
  obtain e0 := some1_inv hF
  subst e0
  exact fin_pure (v := .agg (m1_ref04_Cpu r3)) (by kernel_rfl) (by kernel_rfl) rfl (by kernel_rfl)
noncomputable def law19_awake (H : Heap) : Option (Heap × Bool) :=
  bind2 (law19_begun H) fun H3 r1 =>
  if r1.isNil = true then (some (H3, false))
  else ((r1).bnd fun i5 o6 =>
  bind1 (get_item_Gen H3 i5 o6) fun x8 =>
  bind1 (emit_Code_Number H3 x8.Code_ 0 7) fun H11 =>
  bind1 (item_Gen_Wait H11 (Ptr.at i5 o6)) fun H13 =>
  bind1 (get_item_Gen H13 i5 o6) fun x14 =>
  bind1 (emit_Code_Number H13 x14.Code_ 0 (-2)) fun H17 =>
  bind2 (item_Gen_Two H17 (Ptr.at i5 o6) (ByteArray.mk #[68, 73, 86])) fun H20 r18 =>
  bind3 (law19_ended H20 (Ptr.at i5 o6) 0) fun H24 r21 r22 =>
  if ((!r22) || (r18 != 0)) = true then (some (H24, false))
  else (bind1 (law19_run (Ptr.at i5 o6) r21) fun r27 =>
  some (H24, ((r27.State_ == 1) && (((IntKind.wrap .i32 (r27.R_.g 0)) == (-4)) || false)))))
theorem ok_law19_awake (H : Heap) {ra : Bool} {Hr : Heap} (hF : law19_awake H = some (Hr, ra)) : evS X 14 [] H = some (.one .top (.bool ra), Hr) := by
  let E4 : EN := (0, .one .top (.bool false))
  let E21 : EN := (5, .one .top (.loc 5 0))
  let E26 : EN := (37, .one .top (.loc 5 19))
  let E28 : EN := (39, .one .top (.bool true))
  let E29 : EN := (40, .one .top (.bool true))
  let E30 : EN := (41, .one .top (.loc 5 0))
  let E31 : EN := (42, .one .top (.loc 5 0))
  let E34 : EN := (46, .one .top (.bool false))
  let E35 : EN := (47, .one .top (.bool false))
  let E36 : EN := (48, .one .top (.bool false))
  let E37 : EN := (49, .one .top (.bool false))
  let E38 : EN := (50, .one .top (.bool false))
  let E39 : EN := (51, .one .top (.bool false))
  let E40 : EN := (52, .one .top (.bool false))
  let S41 : St := ⟨[], [], H⟩
  refine w_fun Try.func14 rfl (by kernel_rfl) false (by kernel_rfl) (s0 := S41) (by kernel_rfl) ?_
  unfold law19_awake at hF
  refine w_seq ?_
  refine w_reg S41 (by kernel_rfl) ?_
  refine w_seq ?_
  obtain ⟨H3, r1, c2, hF⟩ := bind2_inv hF
  let E1 : Ptr → EN := fun z0 => (1, .one .top (Ptr.av z0))
  let E2 : Ptr → EN := fun z0 => (8, .one .top (.bool z0.isNil))
  let E3 : Ptr → EN := fun z0 => (7, .one .top (Ptr.av z0))
  let S42 : Ptr → St := fun z0 => ⟨[(E1 z0), (E3 z0)], [], H3⟩
  refine w_regO ⟨[(E1 r1)], [], H3⟩ ?_ ?_
  refine o_one ⟨[(6, .one .top (Ptr.av r1))], [], H3⟩ (st_call (d := (some 6)) (fz := false) (pure := false) (own := false) S41 (ok_law19_begun H c2) (by generalize r1 = qp0; cases qp0 <;> kernel_rfl) (by generalize r1 = qp0; cases qp0 <;> kernel_rfl)) ?_
  refine o_run 1 ⟨[(E1 r1), (6, .one .top (Ptr.av r1))], [], H3⟩ (by kernel_rfl) (by generalize r1 = qp0; cases qp0 <;> kernel_rfl) ?_
  exact o_end (by kernel_rfl) (by kernel_rfl)
  refine w_seq ?_
  refine w_seq ?_
  refine w_regO ⟨[(E1 r1), (E2 r1)], [], H3⟩ ?_ ?_
  refine o_run 1 (S42 r1) (by kernel_rfl) (by generalize r1 = qp0; cases qp0 <;> kernel_rfl) ?_
  refine o_one ⟨[(E1 r1), (E3 r1), (E2 r1)], [], H3⟩ (st_bin (S42 r1) (nil_eql (P := X.P) (ty := 23) (x := (.tmp 7)) (y := (.const (.pointer none))) (m := .top) (m' := .top) r1 (by generalize r1 = qp0; cases qp0 <;> kernel_rfl) (by generalize r1 = qp0; cases qp0 <;> kernel_rfl)) rfl (some 8) (by generalize r1 = qp0; cases qp0 <;> kernel_rfl) (by generalize r1 = qp0; cases qp0 <;> kernel_rfl)) ?_
  exact o_end (by kernel_rfl) (by kernel_rfl)
  rcases if_inv hF with ⟨h4, hF⟩ | ⟨h4, hF⟩
  refine w_cT (m := .top) h4 (s1 := (⟨[], [], H3⟩ : St)) (by kernel_rfl) (by kernel_rfl) ?_
  refine w_seq ?_
  refine w_reg ⟨[E4], [], H3⟩ (by kernel_rfl) ?_
  refine w_ret ?_
  obtain ⟨e0, e1⟩ := some2_inv hF
  subst e0
  subst e1
  exact fin_imp (v := .one .top (.bool false)) (by kernel_rfl) (by kernel_rfl) (by kernel_rfl)
  refine w_cF (m := .top) h4 (s1 := (⟨[(E1 r1)], [], H3⟩ : St)) (by kernel_rfl) (by kernel_rfl) ?_
  refine w_skip ?_
  refine w_seq ?_
  obtain ⟨i5, o6, h7, hF⟩ := pbnd_inv hF
  let E5 : EN := (1, .one .top (.obj i5 o6))
  let E6 : EN := (9, .one .top (.obj i5 o6))
  let E7 : EN := (10, .one .top (.obj i5 o6))
  let E8 : EN := (11, .one .top (.obj i5 o6))
  let E9 : EN := (14, .one .top (.obj i5 o6))
  let E10 : EN := (16, .one .top (.obj i5 o6))
  let E11 : EN := (17, .one .top (.obj i5 o6))
  let E12 : EN := (18, .one .top (.obj i5 o6))
  let E14 : EN := (21, .one .top (.obj i5 o6))
  let E18 : EN := (24, .one .top (.obj i5 o6))
  let E23 : EN := (34, .one .top (.obj i5 o6))
  let S43 : St := ⟨[E5, E6, E7, E8], [], H3⟩
  obtain ⟨x8, V9, hF⟩ := bind1_inv hF
  replace V9 := hgetT_inv V9
  obtain ⟨H11, c10, hF⟩ := bind1_inv hF
  refine w_regO ⟨[E5], [], H11⟩ ?_ ?_
  refine o_run 1 ⟨[(E1 r1), (9, .one .top (Ptr.av r1))], [], H3⟩ (by kernel_rfl) (by generalize r1 = qp0; cases qp0 <;> kernel_rfl) ?_
  refine o_eq (congrArg (fun q => (⟨[(1, .one .top (Ptr.av q)), (9, .one .top (Ptr.av q))], [], H3⟩ : St)) h7) ?_
  refine o_run 1 ⟨[E5, E6, E7], [], H3⟩ (by kernel_rfl) (by kernel_rfl) ?_
  refine o_run 1 S43 (by kernel_rfl) (by generalize x8.Code_ = qp0; generalize x8.Proc_.frame_ = qp1; cases qp0 <;> cases qp1 <;> kernel_rfl) ?_
  refine o_one ⟨[E5, E6, E7, E8, (12, .one .top (Ptr.av x8.Code_))], [], H3⟩ (st_ld (X := X) S43 26 V9 0 1 false (.one .top (Ptr.av x8.Code_)) (some 12) (by kernel_rfl) (by kernel_rfl) (by kernel_rfl) (by kernel_rfl) (by kernel_rfl) (by generalize x8.Code_ = qp0; generalize x8.Proc_.frame_ = qp1; cases qp0 <;> cases qp1 <;> kernel_rfl)) ?_
  refine o_one ⟨[E5, E6, E7, E8, (12, .one .top (Ptr.av x8.Code_)), (13, .tup [])], [], H11⟩ (st_call (d := (some 13)) (fz := false) (pure := false) (own := false) (⟨[E5, E6, E7, E8, (12, .one .top (Ptr.av x8.Code_))], [], H3⟩ : St) (ok_emit_Code_Number H3 c10) (by generalize x8.Code_ = qp0; generalize x8.Proc_.frame_ = qp1; cases qp0 <;> cases qp1 <;> kernel_rfl) (by generalize x8.Code_ = qp0; generalize x8.Proc_.frame_ = qp1; cases qp0 <;> cases qp1 <;> kernel_rfl)) ?_
  exact o_end (by kernel_rfl) (by kernel_rfl)
  refine w_seq ?_
  obtain ⟨H13, c12, hF⟩ := bind1_inv hF
  let S44 : St := ⟨[E5, E10, E11, E12], [], H13⟩
  refine w_regO ⟨[E5], [], H13⟩ ?_ ?_
  refine o_run 1 ⟨[E5, E9], [], H11⟩ (by kernel_rfl) (by kernel_rfl) ?_
  refine o_one ⟨[E5, E9, (15, .tup [])], [], H13⟩ (st_call (d := (some 15)) (fz := false) (pure := false) (own := false) (⟨[E5, E9], [], H11⟩ : St) (ok_item_Gen_Wait H11 c12) (by kernel_rfl) (by kernel_rfl)) ?_
  exact o_end (by kernel_rfl) (by kernel_rfl)
  refine w_seq ?_
  obtain ⟨x14, V15, hF⟩ := bind1_inv hF
  replace V15 := hgetT_inv V15
  obtain ⟨H17, c16, hF⟩ := bind1_inv hF
  refine w_regO ⟨[E5], [], H17⟩ ?_ ?_
  refine o_run 2 ⟨[E5, E10, E11], [], H13⟩ (by kernel_rfl) (by kernel_rfl) ?_
  refine o_run 1 S44 (by kernel_rfl) (by generalize x14.Code_ = qp0; generalize x14.Proc_.frame_ = qp1; cases qp0 <;> cases qp1 <;> kernel_rfl) ?_
  refine o_one ⟨[E5, E10, E11, E12, (19, .one .top (Ptr.av x14.Code_))], [], H13⟩ (st_ld (X := X) S44 26 V15 0 1 false (.one .top (Ptr.av x14.Code_)) (some 19) (by kernel_rfl) (by kernel_rfl) (by kernel_rfl) (by kernel_rfl) (by kernel_rfl) (by generalize x14.Code_ = qp0; generalize x14.Proc_.frame_ = qp1; cases qp0 <;> cases qp1 <;> kernel_rfl)) ?_
  refine o_one ⟨[E5, E10, E11, E12, (19, .one .top (Ptr.av x14.Code_)), (20, .tup [])], [], H17⟩ (st_call (d := (some 20)) (fz := false) (pure := false) (own := false) (⟨[E5, E10, E11, E12, (19, .one .top (Ptr.av x14.Code_))], [], H13⟩ : St) (ok_emit_Code_Number H13 c16) (by generalize x14.Code_ = qp0; generalize x14.Proc_.frame_ = qp1; cases qp0 <;> cases qp1 <;> kernel_rfl) (by generalize x14.Code_ = qp0; generalize x14.Proc_.frame_ = qp1; cases qp0 <;> cases qp1 <;> kernel_rfl)) ?_
  exact o_end (by kernel_rfl) (by kernel_rfl)
  refine w_seq ?_
  obtain ⟨H20, r18, c19, hF⟩ := bind2_inv hF
  let E13 : EN := (2, .one .top (.int .i64 r18))
  let E15 : EN := (22, .one .top (.int .i64 r18))
  let S45 : St := ⟨[E5, E13, E18], [], H20⟩
  refine w_regO ⟨[E5, E13], [], H20⟩ ?_ ?_
  refine o_run 1 ⟨[E5, E14], [], H17⟩ (by kernel_rfl) (by kernel_rfl) ?_
  refine o_one ⟨[E5, E14, E15], [], H20⟩ (st_call (d := (some 22)) (fz := false) (pure := false) (own := false) (⟨[E5, E14], [], H17⟩ : St) (ok_item_Gen_Two H17 c19) (by kernel_rfl) (by kernel_rfl)) ?_
  refine o_run 1 ⟨[E5, E13, E14, E15], [], H20⟩ (by kernel_rfl) (by kernel_rfl) ?_
  exact o_end (by kernel_rfl) (by kernel_rfl)
  refine w_seq ?_
  obtain ⟨H24, r21, r22, c23, hF⟩ := bind3_inv hF
  let E16 : EN := (3, .one .bl (.sl 1 (List.map (eI .u32) r21)))
  let E17 : EN := (4, .one .top (.bool r22))
  let E19 : EN := (25, .tup [.one (.own 1) (.sl 1 (List.map (eI .u32) r21)), .one .top (.bool r22)])
  let E20 : EN := (28, .one .top (.bool r22))
  let E24 : EN := (35, .one .bl (.sl 1 (List.map (eI .u32) r21)))
  let S46 : St := ⟨[E5, E16, E23, E24], [], H24⟩
  refine w_regO ⟨[E5, E13, E16, E17], [], H24⟩ ?_ ?_
  refine o_run 1 S45 (by kernel_rfl) (by kernel_rfl) ?_
  refine o_one ⟨[E5, E13, E18, E19], [], H24⟩ (st_call (d := (some 25)) (fz := false) (pure := false) (own := false) S45 (ok_law19_ended H20 c23) (by kernel_rfl) (by kernel_rfl)) ?_
  refine o_run 5 ⟨[E5, E13, E16, E17, (23, .tup [.one .bl (.sl 1 (List.map (eI .u32) r21)), .one .top (.bool r22)]), E18, E19, (26, .one .bl (.sl 1 (List.map (eI .u32) r21))), (27, .one .top (.bool r22))], [], H24⟩ (by kernel_rfl) (by kernel_rfl) ?_
  exact o_end (by kernel_rfl) (by kernel_rfl)
  refine w_seq ?_
  refine w_seq ?_
  refine w_regO ⟨[E5, E16, (33, .one .top (.bool ((!r22) || (r18 != 0))))], [], H24⟩ ?_ ?_
  refine o_run 3 ⟨[E5, E13, E16, E17, E20, (29, .one .top (.bool (!r22))), (30, .one .top (.bool (!r22)))], [], H24⟩ (by kernel_rfl) (by kernel_rfl) ?_
  rcases bool_cases (!r22) with h25 | h25
  refine o_eq (congrArg (fun q => (⟨[E5, E13, E16, E17, E20, (29, .one .top (.bool q)), (30, .one .top (.bool q))], [], H24⟩ : St)) h25) ?_
  refine o_run 3 ⟨[E5, E13, E16, E17, E20, (29, .one .top (.bool true)), (30, .one .top (.bool true)), (31, .tup []), (32, .tup []), (33, .one .top (.bool true))], [], H24⟩ (by kernel_rfl) (by kernel_rfl) ?_
  refine o_eq2 (congrArg (fun q0 => (⟨[E5, E16, (33, .one .top (.bool q0))], [], H24⟩ : St)) (show true = ((!r22) || (r18 != 0)) by simp [h25])) ?_
  exact o_end (by kernel_rfl) (by kernel_rfl)
  refine o_eq (congrArg (fun q => (⟨[E5, E13, E16, E17, E20, (29, .one .top (.bool q)), (30, .one .top (.bool q))], [], H24⟩ : St)) h25) ?_
  refine o_run 3 ⟨[E5, E13, E16, E17, E20, (29, .one .top (.bool false)), (30, .one .top (.bool false)), (31, .one .top (.int .i64 r18)), (32, .one .top (.bool (r18 != 0))), (33, .one .top (.bool (r18 != 0)))], [], H24⟩ (by kernel_rfl) (by kernel_rfl) ?_
  refine o_eq2 (congrArg (fun q0 => (⟨[E5, E16, (33, .one .top (.bool q0))], [], H24⟩ : St)) (show (r18 != 0) = ((!r22) || (r18 != 0)) by simp [h25])) ?_
  exact o_end (by kernel_rfl) (by kernel_rfl)
  rcases if_inv hF with ⟨h26, hF⟩ | ⟨h26, hF⟩
  refine w_cT (m := .top) h26 (s1 := (⟨[], [], H24⟩ : St)) (by kernel_rfl) (by kernel_rfl) ?_
  refine w_seq ?_
  refine w_reg ⟨[E4], [], H24⟩ (by kernel_rfl) ?_
  refine w_ret ?_
  obtain ⟨e0, e1⟩ := some2_inv hF
  subst e0
  subst e1
  exact fin_imp (v := .one .top (.bool false)) (by kernel_rfl) (by kernel_rfl) (by kernel_rfl)
  refine w_cF (m := .top) h26 (s1 := (⟨[E5, E16], [], H24⟩ : St)) (by kernel_rfl) (by kernel_rfl) ?_
  refine w_skip ?_
  refine w_seq ?_
  obtain ⟨r27, c28, hF⟩ := bind1_inv hF
  let B22 : EB := (5, (m1_ref04_Cpu r27))
  let E25 : EN := (36, .agg (m1_ref04_Cpu r27))
  let E27 : EN := (38, .one .top (.int .i64 r27.State_))
  let E32 : EN := (43, .one .top (.int .u32 (r27.R_.g 0)))
  let E33 : EN := (44, .one .top (.int .i32 (IntKind.wrap .i32 (r27.R_.g 0))))
  refine w_regO ⟨[E21], [B22], H24⟩ ?_ ?_
  refine o_run 2 S46 (by kernel_rfl) (by kernel_rfl) ?_
  refine o_one ⟨[E5, E16, E23, E24, E25], [], H24⟩ (st_call (d := (some 36)) (fz := false) (pure := true) (own := false) S46 (ok_law19_run H24 c28) (by kernel_rfl) (by kernel_rfl)) ?_
  refine o_run 2 ⟨[E5, E16, E21, E23, E24, E25], [B22], H24⟩ (by kernel_rfl) (by kernel_rfl) ?_
  exact o_end (by kernel_rfl) (by kernel_rfl)
  refine w_seq ?_
  refine w_regO ⟨[(0, .one .top (.bool ((r27.State_ == 1) && (((IntKind.wrap .i32 (r27.R_.g 0)) == (-4)) || false))))], [], H24⟩ ?_ ?_
  refine o_run 4 ⟨[E21, E26, E27, (39, .one .top (.bool (r27.State_ == 1))), (40, .one .top (.bool (r27.State_ == 1)))], [B22], H24⟩ (by kernel_rfl) (by kernel_rfl) ?_
  rcases bool_cases (r27.State_ == 1) with h29 | h29
  refine o_eq (congrArg (fun q => (⟨[E21, E26, E27, (39, .one .top (.bool q)), (40, .one .top (.bool q))], [B22], H24⟩ : St)) h29) ?_
  refine o_run 7 ⟨[E21, E26, E27, E28, E29, E30, E31, E32, E33, (45, .one .top (.bool ((IntKind.wrap .i32 (r27.R_.g 0)) == (-4)))), (46, .one .top (.bool ((IntKind.wrap .i32 (r27.R_.g 0)) == (-4)))), (47, .one .top (.bool ((IntKind.wrap .i32 (r27.R_.g 0)) == (-4))))], [B22], H24⟩ (by kernel_rfl) (by kernel_rfl) ?_
  rcases bool_cases ((IntKind.wrap .i32 (r27.R_.g 0)) == (-4)) with h30 | h30
  refine o_eq (congrArg (fun q => (⟨[E21, E26, E27, E28, E29, E30, E31, E32, E33, (45, .one .top (.bool q)), (46, .one .top (.bool q)), (47, .one .top (.bool q))], [B22], H24⟩ : St)) h30) ?_
  refine o_run 6 ⟨[(0, .one .top (.bool true)), E21, E26, E27, E28, E29, E30, E31, E32, E33, (45, .one .top (.bool true)), (46, .one .top (.bool true)), (47, .one .top (.bool true)), (48, .one .top (.bool true)), (49, .one .top (.bool true)), (50, .one .top (.bool true)), (51, .one .top (.bool true)), (52, .one .top (.bool true))], [B22], H24⟩ (by kernel_rfl) (by kernel_rfl) ?_
  refine o_eq2 (congrArg (fun q0 => (⟨[(0, .one .top (.bool q0))], [], H24⟩ : St)) (show true = ((r27.State_ == 1) && (((IntKind.wrap .i32 (r27.R_.g 0)) == (-4)) || false)) by simp [h29, h30])) ?_
  exact o_end (by kernel_rfl) (by kernel_rfl)
  refine o_eq (congrArg (fun q => (⟨[E21, E26, E27, E28, E29, E30, E31, E32, E33, (45, .one .top (.bool q)), (46, .one .top (.bool q)), (47, .one .top (.bool q))], [B22], H24⟩ : St)) h30) ?_
  refine o_run 6 ⟨[E4, E21, E26, E27, E28, E29, E30, E31, E32, E33, (45, .one .top (.bool false)), E34, E35, E36, E37, E38, E39, E40], [B22], H24⟩ (by kernel_rfl) (by kernel_rfl) ?_
  refine o_eq2 (congrArg (fun q0 => (⟨[(0, .one .top (.bool q0))], [], H24⟩ : St)) (show false = ((r27.State_ == 1) && (((IntKind.wrap .i32 (r27.R_.g 0)) == (-4)) || false)) by simp [h29, h30])) ?_
  exact o_end (by kernel_rfl) (by kernel_rfl)
  refine o_eq (congrArg (fun q => (⟨[E21, E26, E27, (39, .one .top (.bool q)), (40, .one .top (.bool q))], [B22], H24⟩ : St)) h29) ?_
  refine o_run 13 ⟨[E4, E21, E26, E27, (39, .one .top (.bool false)), (40, .one .top (.bool false)), (41, .tup []), (42, .tup []), (43, .tup []), (44, .tup []), (45, .tup []), E34, E35, E36, E37, E38, E39, E40], [B22], H24⟩ (by kernel_rfl) (by kernel_rfl) ?_
  refine o_eq2 (congrArg (fun q0 => (⟨[(0, .one .top (.bool q0))], [], H24⟩ : St)) (show false = ((r27.State_ == 1) && (((IntKind.wrap .i32 (r27.R_.g 0)) == (-4)) || false)) by simp [h29])) ?_
  exact o_end (by kernel_rfl) (by kernel_rfl)
  refine w_ret ?_
  obtain ⟨e0, e1⟩ := some2_inv hF
  subst e0
  subst e1
  exact fin_imp (v := .one .top (.bool ((r27.State_ == 1) && (((IntKind.wrap .i32 (r27.R_.g 0)) == (-4)) || false)))) (by kernel_rfl) (by kernel_rfl) (by kernel_rfl)
noncomputable def item_Gen_Out (H : Heap) (p0 : Ptr) (p1 : Int) : Option (Heap) :=
  (p0).bnd fun i1 o2 =>
  bind1 (get_item_Gen H i1 o2) fun x4 =>
  bind2 (emit_Code_Put H x4.Code_ (T_instr_Instr.mk 30 0 0 0 p1)) fun H8 r6 =>
  some H8
theorem ok_item_Gen_Out (H : Heap) {p0 : Ptr} {p1 : Int} {Hr : Heap} (hF : item_Gen_Out H p0 p1 = some Hr) : evS X 32 [.one .top (Ptr.av p0), .one .top (.int .i64 p1)] H = some (.tup [], Hr) := by
  let E1 : EN := (1, .one .top (.int .i64 p1))
  let E6 : EN := (8, .one .top (.int .i64 p1))
  let E7 : EN := (9, .agg [(.top, .int .i64 30), (.top, .int .i64 0), (.top, .int .i64 0), (.top, .int .i64 0), (.top, .int .i64 p1)])
  refine w_fun Try.func32 rfl (by kernel_rfl) false (by kernel_rfl) (s0 := (⟨[(0, .one .top (Ptr.av p0)), E1], [], H⟩ : St)) (by kernel_rfl) ?_
  unfold item_Gen_Out at hF
  obtain ⟨i1, o2, h3, hF⟩ := pbnd_inv hF
  let E2 : EN := (0, .one .top (.obj i1 o2))
  let E3 : EN := (4, .one .top (.obj i1 o2))
  let E4 : EN := (5, .one .top (.obj i1 o2))
  let E5 : EN := (6, .one .top (.obj i1 o2))
  let S8 : St := ⟨[E2, E1, E3, E4, E5], [], H⟩
  obtain ⟨x4, V5, hF⟩ := bind1_inv hF
  replace V5 := hgetT_inv V5
  obtain ⟨H8, r6, c7, hF⟩ := bind2_inv hF
  refine w_regO ⟨[], [], H8⟩ ?_ ?_
  refine o_run 1 ⟨[(0, .one .top (Ptr.av p0)), E1, (4, .one .top (Ptr.av p0))], [], H⟩ (by kernel_rfl) (by generalize p0 = qp0; cases qp0 <;> kernel_rfl) ?_
  refine o_eq (congrArg (fun q => (⟨[(0, .one .top (Ptr.av q)), E1, (4, .one .top (Ptr.av q))], [], H⟩ : St)) h3) ?_
  refine o_run 1 ⟨[E2, E1, E3, E4], [], H⟩ (by kernel_rfl) (by kernel_rfl) ?_
  refine o_run 1 S8 (by kernel_rfl) (by generalize x4.Code_ = qp0; generalize x4.Proc_.frame_ = qp1; cases qp0 <;> cases qp1 <;> kernel_rfl) ?_
  refine o_one ⟨[E2, E1, E3, E4, E5, (7, .one .top (Ptr.av x4.Code_))], [], H⟩ (st_ld (X := X) S8 26 V5 0 1 false (.one .top (Ptr.av x4.Code_)) (some 7) (by kernel_rfl) (by kernel_rfl) (by kernel_rfl) (by kernel_rfl) (by kernel_rfl) (by generalize x4.Code_ = qp0; generalize x4.Proc_.frame_ = qp1; cases qp0 <;> cases qp1 <;> kernel_rfl)) ?_
  refine o_run 2 ⟨[E2, E1, E3, E4, E5, (7, .one .top (Ptr.av x4.Code_)), E6, E7], [], H⟩ (by kernel_rfl) (by generalize x4.Code_ = qp0; generalize x4.Proc_.frame_ = qp1; cases qp0 <;> cases qp1 <;> kernel_rfl) ?_
  refine o_one ⟨[E2, E1, E3, E4, E5, (7, .one .top (Ptr.av x4.Code_)), E6, E7, (10, .one .top (.int .i64 r6))], [], H8⟩ (st_call (d := (some 10)) (fz := false) (pure := false) (own := false) (⟨[E2, E1, E3, E4, E5, (7, .one .top (Ptr.av x4.Code_)), E6, E7], [], H⟩ : St) (ok_emit_Code_Put H c7) (by generalize x4.Code_ = qp0; generalize x4.Proc_.frame_ = qp1; cases qp0 <;> cases qp1 <;> kernel_rfl) (by generalize x4.Code_ = qp0; generalize x4.Proc_.frame_ = qp1; cases qp0 <;> cases qp1 <;> kernel_rfl)) ?_
  exact o_end (by kernel_rfl) (by kernel_rfl)
  obtain e0 := some1_inv hF
  subst e0
  exact fin_imp (v := .tup []) (by kernel_rfl) (by kernel_rfl) (by kernel_rfl)
noncomputable def item_Gen_Log (H : Heap) (p0 : Ptr) (p1 : Int) (p2 : Int) : Option (Heap) :=
  (p0).bnd fun i1 o2 =>
  bind1 (get_item_Gen H i1 o2) fun x4 =>
  bind1 (emit_Code_Number H x4.Code_ 5 (IntKind.wrap .i32 p2)) fun H7 =>
  bind1 (get_item_Gen H7 i1 o2) fun x8 =>
  bind2 (emit_Code_Put H7 x8.Code_ (T_instr_Instr.mk 30 5 0 0 p1)) fun H12 r10 =>
  some H12
theorem ok_item_Gen_Log (H : Heap) {p0 : Ptr} {p1 : Int} {p2 : Int} {Hr : Heap} (hF : item_Gen_Log H p0 p1 p2 = some Hr) : evS X 33 [.one .top (Ptr.av p0), .one .top (.int .i64 p1), .one .top (.int .i64 p2)] H = some (.tup [], Hr) := by
  let E1 : EN := (1, .one .top (.int .i64 p1))
  let E2 : EN := (2, .one .top (.int .i64 p2))
  let E7 : EN := (10, .one .top (.int .i64 p2))
  let E8 : EN := (11, .one .top (.int .i32 (IntKind.wrap .i32 p2)))
  let E12 : EN := (17, .one .top (.int .i64 p1))
  let E13 : EN := (18, .agg [(.top, .int .i64 30), (.top, .int .i64 5), (.top, .int .i64 0), (.top, .int .i64 0), (.top, .int .i64 p1)])
  refine w_fun Try.func33 rfl (by kernel_rfl) false (by kernel_rfl) (s0 := (⟨[(0, .one .top (Ptr.av p0)), E1, E2], [], H⟩ : St)) (by kernel_rfl) ?_
  unfold item_Gen_Log at hF
  refine w_seq ?_
  obtain ⟨i1, o2, h3, hF⟩ := pbnd_inv hF
  let E3 : EN := (0, .one .top (.obj i1 o2))
  let E4 : EN := (6, .one .top (.obj i1 o2))
  let E5 : EN := (7, .one .top (.obj i1 o2))
  let E6 : EN := (8, .one .top (.obj i1 o2))
  let E9 : EN := (13, .one .top (.obj i1 o2))
  let E10 : EN := (14, .one .top (.obj i1 o2))
  let E11 : EN := (15, .one .top (.obj i1 o2))
  let S14 : St := ⟨[E3, E1, E2, E4, E5, E6], [], H⟩
  obtain ⟨x4, V5, hF⟩ := bind1_inv hF
  replace V5 := hgetT_inv V5
  obtain ⟨H7, c6, hF⟩ := bind1_inv hF
  let S15 : St := ⟨[E3, E1, E9, E10, E11], [], H7⟩
  refine w_regO ⟨[E3, E1], [], H7⟩ ?_ ?_
  refine o_run 1 ⟨[(0, .one .top (Ptr.av p0)), E1, E2, (6, .one .top (Ptr.av p0))], [], H⟩ (by kernel_rfl) (by generalize p0 = qp0; cases qp0 <;> kernel_rfl) ?_
  refine o_eq (congrArg (fun q => (⟨[(0, .one .top (Ptr.av q)), E1, E2, (6, .one .top (Ptr.av q))], [], H⟩ : St)) h3) ?_
  refine o_run 1 ⟨[E3, E1, E2, E4, E5], [], H⟩ (by kernel_rfl) (by kernel_rfl) ?_
  refine o_run 1 S14 (by kernel_rfl) (by generalize x4.Code_ = qp0; generalize x4.Proc_.frame_ = qp1; cases qp0 <;> cases qp1 <;> kernel_rfl) ?_
  refine o_one ⟨[E3, E1, E2, E4, E5, E6, (9, .one .top (Ptr.av x4.Code_))], [], H⟩ (st_ld (X := X) S14 26 V5 0 1 false (.one .top (Ptr.av x4.Code_)) (some 9) (by kernel_rfl) (by kernel_rfl) (by kernel_rfl) (by kernel_rfl) (by kernel_rfl) (by generalize x4.Code_ = qp0; generalize x4.Proc_.frame_ = qp1; cases qp0 <;> cases qp1 <;> kernel_rfl)) ?_
  refine o_run 2 ⟨[E3, E1, E2, E4, E5, E6, (9, .one .top (Ptr.av x4.Code_)), E7, E8], [], H⟩ (by kernel_rfl) (by generalize x4.Code_ = qp0; generalize x4.Proc_.frame_ = qp1; cases qp0 <;> cases qp1 <;> kernel_rfl) ?_
  refine o_one ⟨[E3, E1, E2, E4, E5, E6, (9, .one .top (Ptr.av x4.Code_)), E7, E8, (12, .tup [])], [], H7⟩ (st_call (d := (some 12)) (fz := false) (pure := false) (own := false) (⟨[E3, E1, E2, E4, E5, E6, (9, .one .top (Ptr.av x4.Code_)), E7, E8], [], H⟩ : St) (ok_emit_Code_Number H c6) (by generalize x4.Code_ = qp0; generalize x4.Proc_.frame_ = qp1; cases qp0 <;> cases qp1 <;> kernel_rfl) (by generalize x4.Code_ = qp0; generalize x4.Proc_.frame_ = qp1; cases qp0 <;> cases qp1 <;> kernel_rfl)) ?_
  exact o_end (by kernel_rfl) (by kernel_rfl)
  obtain ⟨x8, V9, hF⟩ := bind1_inv hF
  replace V9 := hgetT_inv V9
  obtain ⟨H12, r10, c11, hF⟩ := bind2_inv hF
  refine w_regO ⟨[], [], H12⟩ ?_ ?_
  refine o_run 2 ⟨[E3, E1, E9, E10], [], H7⟩ (by kernel_rfl) (by kernel_rfl) ?_
  refine o_run 1 S15 (by kernel_rfl) (by generalize x8.Code_ = qp0; generalize x8.Proc_.frame_ = qp1; cases qp0 <;> cases qp1 <;> kernel_rfl) ?_
  refine o_one ⟨[E3, E1, E9, E10, E11, (16, .one .top (Ptr.av x8.Code_))], [], H7⟩ (st_ld (X := X) S15 26 V9 0 1 false (.one .top (Ptr.av x8.Code_)) (some 16) (by kernel_rfl) (by kernel_rfl) (by kernel_rfl) (by kernel_rfl) (by kernel_rfl) (by generalize x8.Code_ = qp0; generalize x8.Proc_.frame_ = qp1; cases qp0 <;> cases qp1 <;> kernel_rfl)) ?_
  refine o_run 2 ⟨[E3, E1, E9, E10, E11, (16, .one .top (Ptr.av x8.Code_)), E12, E13], [], H7⟩ (by kernel_rfl) (by generalize x8.Code_ = qp0; generalize x8.Proc_.frame_ = qp1; cases qp0 <;> cases qp1 <;> kernel_rfl) ?_
  refine o_one ⟨[E3, E1, E9, E10, E11, (16, .one .top (Ptr.av x8.Code_)), E12, E13, (19, .one .top (.int .i64 r10))], [], H12⟩ (st_call (d := (some 19)) (fz := false) (pure := false) (own := false) (⟨[E3, E1, E9, E10, E11, (16, .one .top (Ptr.av x8.Code_)), E12, E13], [], H7⟩ : St) (ok_emit_Code_Put H7 c11) (by generalize x8.Code_ = qp0; generalize x8.Proc_.frame_ = qp1; cases qp0 <;> cases qp1 <;> kernel_rfl) (by generalize x8.Code_ = qp0; generalize x8.Proc_.frame_ = qp1; cases qp0 <;> cases qp1 <;> kernel_rfl)) ?_
  exact o_end (by kernel_rfl) (by kernel_rfl)
  obtain e0 := some1_inv hF
  subst e0
  exact fin_imp (v := .tup []) (by kernel_rfl) (by kernel_rfl) (by kernel_rfl)
noncomputable def emit_Code_Here (H : Heap) (p0 : Ptr) : Option (Int) :=
  (p0).bnd fun i1 o2 =>
  bind1 (get_emit_Code H i1 o2) fun x4 =>
  some (x4.words_.length : Int)
theorem len_emit_Code_Here {H : Heap} {i o : Nat} {l : List Int} {cs : List MC} (V : hget H i o 8 = some ((.own 1, .sl 1 (List.map (eI .u32) l)) :: cs)) : evS X 42 [.one .top (.obj i o)] H = some (.one .top (.int .i64 (l.length : Int)), H) := by
  refine w_fun Try.func42 rfl (by kernel_rfl) true (by kernel_rfl) (s0 := ⟨[(0, .one .top (.obj i o))], [], H⟩) (by kernel_rfl) ?_
  refine w_seq ?_
  refine w_reg ⟨[(0, .one .top (.obj i o))], [], H⟩ (by kernel_rfl) ?_
  refine w_seq ?_
  refine w_regO ⟨[(2, .one .top (.int .i64 (l.length : Int)))], [], H⟩ ?_ ?_
  refine o_run 3 ⟨[(0, .one .top (.obj i o)), (3, .one .top (.obj i o)), (4, .one .top (.obj i o)), (5, .one .top (.obj i o))], [], H⟩ (by kernel_rfl) (by kernel_rfl) ?_
  refine o_one ⟨[(0, .one .top (.obj i o)), (3, .one .top (.obj i o)), (4, .one .top (.obj i o)), (5, .one .top (.obj i o)), (6, .one .bh (.sl 1 (List.map (eI .u32) l)))], [], H⟩ (st_ld (X := X) ⟨[(0, .one .top (.obj i o)), (3, .one .top (.obj i o)), (4, .one .top (.obj i o)), (5, .one .top (.obj i o))], [], H⟩ 42 V 0 1 false (.one .bh (.sl 1 (List.map (eI .u32) l))) (some 6) (by kernel_rfl) (by kernel_rfl) (by kernel_rfl) (by kernel_rfl) (by kernel_rfl) (by kernel_rfl)) ?_
  refine o_one ⟨[(0, .one .top (.obj i o)), (3, .one .top (.obj i o)), (4, .one .top (.obj i o)), (5, .one .top (.obj i o)), (6, .one .bh (.sl 1 (List.map (eI .u32) l))), (7, .one .top (.int .i64 (l.length : Int)))], [], H⟩ (st_len ⟨[(0, .one .top (.obj i o)), (3, .one .top (.obj i o)), (4, .one .top (.obj i o)), (5, .one .top (.obj i o)), (6, .one .bh (.sl 1 (List.map (eI .u32) l)))], [], H⟩ l (eI .u32) (some 7) (by kernel_rfl) (by kernel_rfl)) ?_
  refine o_run 1 ⟨[(0, .one .top (.obj i o)), (2, .one .top (.int .i64 (l.length : Int))), (3, .one .top (.obj i o)), (4, .one .top (.obj i o)), (5, .one .top (.obj i o)), (6, .one .bh (.sl 1 (List.map (eI .u32) l))), (7, .one .top (.int .i64 (l.length : Int)))], [], H⟩ (by kernel_rfl) (by kernel_rfl) ?_
  exact o_end (by kernel_rfl) (by kernel_rfl)
  refine w_ret ?_
  exact fin_pure (v := .one .top (.int .i64 (l.length : Int))) (by kernel_rfl) (by kernel_rfl) rfl (by kernel_rfl)
noncomputable def emit_Code_Fix (H : Heap) (p0 : Ptr) (p1 : Int) (p2 : Int) (p3 : Int) (p4 : Int) : Option (Heap) :=
  (p0).bnd fun i1 o2 =>
  bind1 (get_emit_Code H i1 o2) fun x4 =>
  bind1 (app 32 x4.fixups_ ([(T_api_Fixup.mk (x4.words_.length : Int) p1 p2 p3)] : List T_api_Fixup)) fun v6 =>
  bnd (set_emit_Code H i1 o2 (T_emit_Code.mk x4.words_ v6 x4.marks_ x4.pads_ x4.active_ x4.depth_ x4.most_ x4.err_)) fun H8 =>
  if (p1 == 3) = true then (bind2 (emit_Code_Put H8 (Ptr.at i1 o2) (T_instr_Instr.mk 23 0 0 0 0)) fun H14 r12 =>
  some H14)
  else (bind2 (emit_Code_Put H8 (Ptr.at i1 o2) (T_instr_Instr.mk 3 p4 0 0 0)) fun H17 r15 =>
  bind2 (emit_Code_Put H17 (Ptr.at i1 o2) (T_instr_Instr.mk 4 p4 p4 0 0)) fun H20 r18 =>
  some H20)
theorem ok_emit_Code_Fix (H : Heap) {p0 : Ptr} {p1 : Int} {p2 : Int} {p3 : Int} {p4 : Int} {Hr : Heap} (hF : emit_Code_Fix H p0 p1 p2 p3 p4 = some Hr) : evS X 77 [.one .top (Ptr.av p0), .one .top (.int .i64 p1), .one .top (.int .i64 p2), .one .top (.int .i64 p3), .one .top (.int .i64 p4)] H = some (.tup [], Hr) := by
  let E1 : Ptr → EN := fun z0 => (0, .one .top (Ptr.av z0))
  let E2 : EN := (1, .one .top (.int .i64 p1))
  let E3 : EN := (2, .one .top (.int .i64 p2))
  let E4 : EN := (3, .one .top (.int .i64 p3))
  let E5 : EN := (4, .one .top (.int .i64 p4))
  let E7 : Ptr → EN := fun z0 => (10, .one .top (Ptr.av z0))
  let E13 : EN := (17, .one .top (.int .i64 p1))
  let E14 : EN := (18, .one .top (.int .i64 p2))
  let E15 : EN := (19, .one .top (.int .i64 p3))
  let E16 : EN := (14, .one .top .junk)
  let E19 : EN := (21, .one .top .junk)
  let E20 : EN := (22, .one .top .junk)
  let E27 : EN := (28, .agg ([(.top, .int .i64 23)] ++ List.replicate 4 (.top, .int .i64 0)))
  let E29 : EN := (31, .one .top (.int .i64 p4))
  let E30 : EN := (32, .agg [(.top, .int .i64 3), (.top, .int .i64 p4), (.top, .int .i64 0), (.top, .int .i64 0), (.top, .int .i64 0)])
  let E32 : EN := (35, .one .top (.int .i64 p4))
  let E33 : EN := (36, .one .top (.int .i64 p4))
  let E34 : EN := (37, .agg [(.top, .int .i64 4), (.top, .int .i64 p4), (.top, .int .i64 p4), (.top, .int .i64 0), (.top, .int .i64 0)])
  refine w_fun Try.func77 rfl (by kernel_rfl) false (by kernel_rfl) (s0 := (⟨[(E1 p0), E2, E3, E4, E5], [], H⟩ : St)) (by kernel_rfl) ?_
  unfold emit_Code_Fix at hF
  refine w_seq ?_
  obtain ⟨i1, o2, h3, hF⟩ := pbnd_inv hF
  let E6 : EN := (0, .one .top (.obj i1 o2))
  let E8 : EN := (10, .one .top (.obj i1 o2))
  let E9 : EN := (11, .one .top (.obj i1 o2))
  let E10 : EN := (12, .one .top (.obj i1 o2))
  let E11 : EN := (13, .one .top (.obj i1 (o2 + 1)))
  let E12 : EN := (15, .one .top (.obj i1 o2))
  let E21 : EN := (23, .one .top (.obj i1 o2))
  let E22 : EN := (24, .one .top (.obj i1 (o2 + 1)))
  let E26 : EN := (27, .one .top (.obj i1 o2))
  let E28 : EN := (30, .one .top (.obj i1 o2))
  let E31 : EN := (34, .one .top (.obj i1 o2))
  let S35 : St := ⟨[E6, E2, E3, E4, E5, E8, E9, E10, E11, E12, E13, E14, E15], [], H⟩
  obtain ⟨x4, V5, hF⟩ := bind1_inv hF
  replace V5 := hgetT_inv V5
  let E17 : EN := (16, .one .top (.int .i64 (x4.words_.length : Int)))
  let E18 : EN := (20, .agg [(.top, .int .i64 (x4.words_.length : Int)), (.top, .int .i64 p1), (.top, .int .i64 p2), (.top, .int .i64 p3)])
  let E23 : EN := (14, .one (.own 1) (.sl 4 (List.map e_api_Fixup x4.fixups_)))
  let E24 : EN := (21, .one (.own 1) (.sl 4 (List.map e_api_Fixup ([(T_api_Fixup.mk (x4.words_.length : Int) p1 p2 p3)] : List T_api_Fixup))))
  let S37 : St := ⟨[E6, E2, E3, E4, E5, E8, E9, E10, E11, E23, E12, E13, E14, E15], [], (hset H i1 o2 [((.own 1), .sl 1 (List.map (eI .u32) x4.words_)), (.top, .junk), ((.own 1), .sl 2 (List.map e_api_Segment x4.marks_.list_)), ((.own 1), .sl 1 (List.map (eI .i64) x4.pads_)), ((.own 1), .sl 1 (List.map (eI .i64) x4.active_)), (.top, .int .i64 x4.depth_), (.top, .int .i64 x4.most_), (.top, .int .i64 x4.err_)])⟩
  let S38 : St := ⟨[E6, E2, E3, E4, E5, E8, E9, E10, E11, E23, E12, E17, E13, E14, E15, E18], [], (hset H i1 o2 [((.own 1), .sl 1 (List.map (eI .u32) x4.words_)), (.top, .junk), ((.own 1), .sl 2 (List.map e_api_Segment x4.marks_.list_)), ((.own 1), .sl 1 (List.map (eI .i64) x4.pads_)), ((.own 1), .sl 1 (List.map (eI .i64) x4.active_)), (.top, .int .i64 x4.depth_), (.top, .int .i64 x4.most_), (.top, .int .i64 x4.err_)])⟩
  let S39 : St := ⟨[E6, E2, E3, E4, E5, E8, E9, E10, E11, E23, E12, E17, E13, E14, E15, E18, E24], [], (hset H i1 o2 [((.own 1), .sl 1 (List.map (eI .u32) x4.words_)), (.top, .junk), ((.own 1), .sl 2 (List.map e_api_Segment x4.marks_.list_)), ((.own 1), .sl 1 (List.map (eI .i64) x4.pads_)), ((.own 1), .sl 1 (List.map (eI .i64) x4.active_)), (.top, .int .i64 x4.depth_), (.top, .int .i64 x4.most_), (.top, .int .i64 x4.err_)])⟩
  let S41 : St := ⟨[E6, E2, E3, E4, E5, E8, E9, E10, E11, E16, E12, E17, E13, E14, E15, E18, E19], [], (hset H i1 o2 [((.own 1), .sl 1 (List.map (eI .u32) x4.words_)), (.top, .junk), ((.own 1), .sl 2 (List.map e_api_Segment x4.marks_.list_)), ((.own 1), .sl 1 (List.map (eI .i64) x4.pads_)), ((.own 1), .sl 1 (List.map (eI .i64) x4.active_)), (.top, .int .i64 x4.depth_), (.top, .int .i64 x4.most_), (.top, .int .i64 x4.err_)])⟩
  let S44 : St := ⟨[E6, E2, E3, E4, E5, E8, E9, E10, E11, E16, E12, E17, E13, E14, E15, E18, E19, E20, E21, E22], [], (hset H i1 o2 [((.own 1), .sl 1 (List.map (eI .u32) x4.words_)), (.top, .junk), ((.own 1), .sl 2 (List.map e_api_Segment x4.marks_.list_)), ((.own 1), .sl 1 (List.map (eI .i64) x4.pads_)), ((.own 1), .sl 1 (List.map (eI .i64) x4.active_)), (.top, .int .i64 x4.depth_), (.top, .int .i64 x4.most_), (.top, .int .i64 x4.err_)])⟩
  let S45 : St := ⟨[E6, E2, E3, E4, E5, E8, E9, E10, E11, E12, E17, E13, E14, E15, E18], [], H⟩
  let S46 : St := ⟨[E6, E2, E3, E4, E5, E8, E9, E10, E11, E12, E17, E13, E14, E15, E18, E24], [], H⟩
  obtain ⟨v6, h7, hF⟩ := bind1_inv hF
  let E25 : EN := (22, .one (.own 1) (.sl 4 (List.map e_api_Fixup v6)))
  let S36 : St := ⟨[E6, E2, E3, E4, E5, E8, E9, E10, E11, E16, E12, E17, E13, E14, E15, E18, E19, E20, E21, E22], [], (hset H i1 o2 [((.own 1), .sl 1 (List.map (eI .u32) x4.words_)), ((.own 1), .sl 4 (List.map e_api_Fixup v6)), ((.own 1), .sl 2 (List.map e_api_Segment x4.marks_.list_)), ((.own 1), .sl 1 (List.map (eI .i64) x4.pads_)), ((.own 1), .sl 1 (List.map (eI .i64) x4.active_)), (.top, .int .i64 x4.depth_), (.top, .int .i64 x4.most_), (.top, .int .i64 x4.err_)])⟩
  let S40 : St := ⟨[E6, E2, E3, E4, E5, E8, E9, E10, E11, E16, E12, E17, E13, E14, E15, E18, E19, E25], [], (hset H i1 o2 [((.own 1), .sl 1 (List.map (eI .u32) x4.words_)), (.top, .junk), ((.own 1), .sl 2 (List.map e_api_Segment x4.marks_.list_)), ((.own 1), .sl 1 (List.map (eI .i64) x4.pads_)), ((.own 1), .sl 1 (List.map (eI .i64) x4.active_)), (.top, .int .i64 x4.depth_), (.top, .int .i64 x4.most_), (.top, .int .i64 x4.err_)])⟩
  let S42 : St := ⟨[E6, E2, E3, E4, E5, E8, E9, E10, E11, E16, E12, E17, E13, E14, E15, E18, E19, E25, E21], [], (hset H i1 o2 [((.own 1), .sl 1 (List.map (eI .u32) x4.words_)), (.top, .junk), ((.own 1), .sl 2 (List.map e_api_Segment x4.marks_.list_)), ((.own 1), .sl 1 (List.map (eI .i64) x4.pads_)), ((.own 1), .sl 1 (List.map (eI .i64) x4.active_)), (.top, .int .i64 x4.depth_), (.top, .int .i64 x4.most_), (.top, .int .i64 x4.err_)])⟩
  let S43 : St := ⟨[E6, E2, E3, E4, E5, E8, E9, E10, E11, E16, E12, E17, E13, E14, E15, E18, E19, E25, E21, E22], [], (hset H i1 o2 [((.own 1), .sl 1 (List.map (eI .u32) x4.words_)), (.top, .junk), ((.own 1), .sl 2 (List.map e_api_Segment x4.marks_.list_)), ((.own 1), .sl 1 (List.map (eI .i64) x4.pads_)), ((.own 1), .sl 1 (List.map (eI .i64) x4.active_)), (.top, .int .i64 x4.depth_), (.top, .int .i64 x4.most_), (.top, .int .i64 x4.err_)])⟩
  obtain ⟨H8, h9, hF⟩ := bnd_inv hF
  let S47 : St := ⟨[E6, E26, E27], [], H8⟩
  let S48 : St := ⟨[E6, E5, E28, E29, E30], [], H8⟩
  have V10 : hget H8 i1 o2 8 = some (o_emit_Code (T_emit_Code.mk x4.words_ v6 x4.marks_ x4.pads_ x4.active_ x4.depth_ x4.most_ x4.err_)) := by rw [← h9]; exact hset_get V5 rfl
  let K50 : Sch := .last 11 (.last 12 (.take 13 (.take 14 (.last 15 .done))))
  refine w_regD (.take 0 (.take 1 (.take 2 (.take 3 (.take 5 (.take 7 (.take 8 (.take 9 (.alt 4 (.last 6 (.take 10 K50)) (.last 6 (.take 10 (.alt 4 K50 (.last 11 (.last 4 (.last 12 (.take 13 (.take 14 (.last 15 .done)))))))))))))))))) (by kernel_rfl) (⟨[E6, E2, E5], [], H8⟩ : St) ?_ ?_
  refine d_take ⟨[(E1 p0), E2, E3, E4, E5, (E7 p0)], [], H⟩ (by generalize p0 = qp0; cases qp0 <;> kernel_rfl) ?_
  refine d_take ⟨[(E1 p0), E2, E3, E4, E5, (E7 p0), (11, .one .top (Ptr.av p0))], [], H⟩ (by generalize p0 = qp0; cases qp0 <;> kernel_rfl) ?_
  refine d_eq (congrArg (fun q => (⟨[(0, .one .top (Ptr.av q)), E2, E3, E4, E5, (10, .one .top (Ptr.av q)), (11, .one .top (Ptr.av q))], [], H⟩ : St)) h3) ?_
  refine d_take ⟨[E6, E2, E3, E4, E5, E8, E9, E10], [], H⟩ (by kernel_rfl) ?_
  refine d_take ⟨[E6, E2, E3, E4, E5, E8, E9, E10, E11], [], H⟩ (by kernel_rfl) ?_
  refine d_take ⟨[E6, E2, E3, E4, E5, E8, E9, E10, E11, E12], [], H⟩ (by kernel_rfl) ?_
  refine d_take ⟨[E6, E2, E3, E4, E5, E8, E9, E10, E11, E12, E13], [], H⟩ (by kernel_rfl) ?_
  refine d_take ⟨[E6, E2, E3, E4, E5, E8, E9, E10, E11, E12, E13, E14], [], H⟩ (by kernel_rfl) ?_
  refine d_take S35 (by kernel_rfl) ?_
  refine q_in S36 ?_ ?_
  refine q_alt S37 (st_ldT (X := X) (h2 := (hset H i1 o2 [((.own 1), .sl 1 (List.map (eI .u32) x4.words_)), (.top, .junk), ((.own 1), .sl 2 (List.map e_api_Segment x4.marks_.list_)), ((.own 1), .sl 1 (List.map (eI .i64) x4.pads_)), ((.own 1), .sl 1 (List.map (eI .i64) x4.active_)), (.top, .int .i64 x4.depth_), (.top, .int .i64 x4.most_), (.top, .int .i64 x4.err_)])) S35 128 V5 1 1 false (.one (.own 1) (.sl 4 (List.map e_api_Fixup x4.fixups_))) (some 14) (by kernel_rfl) (by kernel_rfl) (by kernel_rfl) (by kernel_rfl) (by kernel_rfl) (hset_sub0 V5 (Nat.le_of_ble_eq_true rfl)) (by kernel_rfl)) ?_ ?_
  refine q_last ⟨[E6, E2, E3, E4, E5, E8, E9, E10, E11, E23, E12, E17, E13, E14, E15], [], (hset H i1 o2 [((.own 1), .sl 1 (List.map (eI .u32) x4.words_)), (.top, .junk), ((.own 1), .sl 2 (List.map e_api_Segment x4.marks_.list_)), ((.own 1), .sl 1 (List.map (eI .i64) x4.pads_)), ((.own 1), .sl 1 (List.map (eI .i64) x4.active_)), (.top, .int .i64 x4.depth_), (.top, .int .i64 x4.most_), (.top, .int .i64 x4.err_)])⟩ (st_call (d := (some 16)) (fz := false) (pure := true) (own := false) S37 (len_emit_Code_Here (H := (hset H i1 o2 [((.own 1), .sl 1 (List.map (eI .u32) x4.words_)), (.top, .junk), ((.own 1), .sl 2 (List.map e_api_Segment x4.marks_.list_)), ((.own 1), .sl 1 (List.map (eI .i64) x4.pads_)), ((.own 1), .sl 1 (List.map (eI .i64) x4.active_)), (.top, .int .i64 x4.depth_), (.top, .int .i64 x4.most_), (.top, .int .i64 x4.err_)])) (hset_get V5 rfl)) (by kernel_rfl) (by kernel_rfl)) ?_
  refine q_take S38 (by kernel_rfl) ?_
  refine q_last S39 (by kernel_rfl) ?_
  refine q_last S40 (st_app (X := X) S41 32 h7 128 128 135 4 0 (List.replicate 4 (.top, .int .i64 0)) (.own 1) e_api_Fixup 0 (some 22) (by kernel_rfl) (by kernel_rfl) (by kernel_rfl) (by kernel_rfl) (by kernel_rfl) (by kernel_rfl) (by kernel_rfl) (by kernel_rfl) (by kernel_rfl) (fun _ => rfl) (by kernel_rfl)) ?_
  refine q_take S42 (by kernel_rfl) ?_
  refine q_take S43 (by kernel_rfl) ?_
  refine q_last S36 (st_st (X := X) (lc := []) (h2 := (hset H i1 o2 [((.own 1), .sl 1 (List.map (eI .u32) x4.words_)), ((.own 1), .sl 4 (List.map e_api_Fixup v6)), ((.own 1), .sl 2 (List.map e_api_Segment x4.marks_.list_)), ((.own 1), .sl 1 (List.map (eI .i64) x4.pads_)), ((.own 1), .sl 1 (List.map (eI .i64) x4.active_)), (.top, .int .i64 x4.depth_), (.top, .int .i64 x4.most_), (.top, .int .i64 x4.err_)])) S44 128 (hset_get V5 rfl) 1 1 (.one (.own 1) (.sl 4 (List.map e_api_Fixup v6))) (by kernel_rfl) (by kernel_rfl) (by kernel_rfl) (by kernel_rfl) (by kernel_rfl) (by kernel_rfl) (hset_sub V5 rfl (Nat.le_of_ble_eq_true rfl)) (by kernel_rfl)) ?_
  exact q_end (by kernel_rfl)
  refine q_last ⟨[E6, E2, E3, E4, E5, E8, E9, E10, E11, E12, E17, E13, E14, E15], [], H⟩ (st_call (d := (some 16)) (fz := false) (pure := true) (own := false) S35 (len_emit_Code_Here (H := H) V5) (by kernel_rfl) (by kernel_rfl)) ?_
  refine q_take S45 (by kernel_rfl) ?_
  refine q_alt S38 (st_ldT (X := X) (h2 := (hset H i1 o2 [((.own 1), .sl 1 (List.map (eI .u32) x4.words_)), (.top, .junk), ((.own 1), .sl 2 (List.map e_api_Segment x4.marks_.list_)), ((.own 1), .sl 1 (List.map (eI .i64) x4.pads_)), ((.own 1), .sl 1 (List.map (eI .i64) x4.active_)), (.top, .int .i64 x4.depth_), (.top, .int .i64 x4.most_), (.top, .int .i64 x4.err_)])) S45 128 V5 1 1 false (.one (.own 1) (.sl 4 (List.map e_api_Fixup x4.fixups_))) (some 14) (by kernel_rfl) (by kernel_rfl) (by kernel_rfl) (by kernel_rfl) (by kernel_rfl) (hset_sub0 V5 (Nat.le_of_ble_eq_true rfl)) (by kernel_rfl)) ?_ ?_
  refine q_last S39 (by kernel_rfl) ?_
  refine q_last S40 (st_app (X := X) S41 32 h7 128 128 135 4 0 (List.replicate 4 (.top, .int .i64 0)) (.own 1) e_api_Fixup 0 (some 22) (by kernel_rfl) (by kernel_rfl) (by kernel_rfl) (by kernel_rfl) (by kernel_rfl) (by kernel_rfl) (by kernel_rfl) (by kernel_rfl) (by kernel_rfl) (fun _ => rfl) (by kernel_rfl)) ?_
  refine q_take S42 (by kernel_rfl) ?_
  refine q_take S43 (by kernel_rfl) ?_
  refine q_last S36 (st_st (X := X) (lc := []) (h2 := (hset H i1 o2 [((.own 1), .sl 1 (List.map (eI .u32) x4.words_)), ((.own 1), .sl 4 (List.map e_api_Fixup v6)), ((.own 1), .sl 2 (List.map e_api_Segment x4.marks_.list_)), ((.own 1), .sl 1 (List.map (eI .i64) x4.pads_)), ((.own 1), .sl 1 (List.map (eI .i64) x4.active_)), (.top, .int .i64 x4.depth_), (.top, .int .i64 x4.most_), (.top, .int .i64 x4.err_)])) S44 128 (hset_get V5 rfl) 1 1 (.one (.own 1) (.sl 4 (List.map e_api_Fixup v6))) (by kernel_rfl) (by kernel_rfl) (by kernel_rfl) (by kernel_rfl) (by kernel_rfl) (by kernel_rfl) (hset_sub V5 rfl (Nat.le_of_ble_eq_true rfl)) (by kernel_rfl)) ?_
  exact q_end (by kernel_rfl)
  refine q_last S46 (by kernel_rfl) ?_
  refine q_last S39 (st_ldT (X := X) (h2 := (hset H i1 o2 [((.own 1), .sl 1 (List.map (eI .u32) x4.words_)), (.top, .junk), ((.own 1), .sl 2 (List.map e_api_Segment x4.marks_.list_)), ((.own 1), .sl 1 (List.map (eI .i64) x4.pads_)), ((.own 1), .sl 1 (List.map (eI .i64) x4.active_)), (.top, .int .i64 x4.depth_), (.top, .int .i64 x4.most_), (.top, .int .i64 x4.err_)])) S46 128 V5 1 1 false (.one (.own 1) (.sl 4 (List.map e_api_Fixup x4.fixups_))) (some 14) (by kernel_rfl) (by kernel_rfl) (by kernel_rfl) (by kernel_rfl) (by kernel_rfl) (hset_sub0 V5 (Nat.le_of_ble_eq_true rfl)) (by kernel_rfl)) ?_
  refine q_last S40 (st_app (X := X) S41 32 h7 128 128 135 4 0 (List.replicate 4 (.top, .int .i64 0)) (.own 1) e_api_Fixup 0 (some 22) (by kernel_rfl) (by kernel_rfl) (by kernel_rfl) (by kernel_rfl) (by kernel_rfl) (by kernel_rfl) (by kernel_rfl) (by kernel_rfl) (by kernel_rfl) (fun _ => rfl) (by kernel_rfl)) ?_
  refine q_take S42 (by kernel_rfl) ?_
  refine q_take S43 (by kernel_rfl) ?_
  refine q_last S36 (st_st (X := X) (lc := []) (h2 := (hset H i1 o2 [((.own 1), .sl 1 (List.map (eI .u32) x4.words_)), ((.own 1), .sl 4 (List.map e_api_Fixup v6)), ((.own 1), .sl 2 (List.map e_api_Segment x4.marks_.list_)), ((.own 1), .sl 1 (List.map (eI .i64) x4.pads_)), ((.own 1), .sl 1 (List.map (eI .i64) x4.active_)), (.top, .int .i64 x4.depth_), (.top, .int .i64 x4.most_), (.top, .int .i64 x4.err_)])) S44 128 (hset_get V5 rfl) 1 1 (.one (.own 1) (.sl 4 (List.map e_api_Fixup v6))) (by kernel_rfl) (by kernel_rfl) (by kernel_rfl) (by kernel_rfl) (by kernel_rfl) (by kernel_rfl) (hset_sub V5 rfl (Nat.le_of_ble_eq_true rfl)) (by kernel_rfl)) ?_
  exact q_end (by kernel_rfl)
  refine eq_via (congrArg (fun q => (⟨[E6, E2, E3, E4, E5, E8, E9, E10, E11, E16, E12, E17, E13, E14, E15, E18, E19, E20, E21, E22], [], q⟩ : St)) h9) ?_
  kernel_rfl
  refine w_seq ?_
  refine w_seq ?_
  refine w_reg ⟨[E6, E5, (26, .one .top (.bool (p1 == 3)))], [], H8⟩ (by kernel_rfl) ?_
  rcases if_inv hF with ⟨h11, hF⟩ | ⟨h11, hF⟩
  refine w_cT (m := .top) h11 (s1 := (⟨[E6], [], H8⟩ : St)) (by kernel_rfl) (by kernel_rfl) ?_
  refine w_seq ?_
  obtain ⟨H14, r12, c13, hF⟩ := bind2_inv hF
  refine w_regO ⟨[], [], H14⟩ ?_ ?_
  refine o_run 2 S47 (by kernel_rfl) (by kernel_rfl) ?_
  refine o_one ⟨[E6, E26, E27, (29, .one .top (.int .i64 r12))], [], H14⟩ (st_call (d := (some 29)) (fz := false) (pure := false) (own := false) S47 (ok_emit_Code_Put H8 c13) (by kernel_rfl) (by kernel_rfl)) ?_
  exact o_end (by kernel_rfl) (by kernel_rfl)
  refine w_ret ?_
  obtain e0 := some1_inv hF
  subst e0
  exact fin_imp (v := .tup []) (by kernel_rfl) (by kernel_rfl) (by kernel_rfl)
  refine w_cF (m := .top) h11 (s1 := (⟨[E6, E5], [], H8⟩ : St)) (by kernel_rfl) (by kernel_rfl) ?_
  refine w_skip ?_
  refine w_seq ?_
  obtain ⟨H17, r15, c16, hF⟩ := bind2_inv hF
  let S49 : St := ⟨[E6, E5, E31, E32, E33, E34], [], H17⟩
  refine w_regO ⟨[E6, E5], [], H17⟩ ?_ ?_
  refine o_run 3 S48 (by kernel_rfl) (by kernel_rfl) ?_
  refine o_one ⟨[E6, E5, E28, E29, E30, (33, .one .top (.int .i64 r15))], [], H17⟩ (st_call (d := (some 33)) (fz := false) (pure := false) (own := false) S48 (ok_emit_Code_Put H8 c16) (by kernel_rfl) (by kernel_rfl)) ?_
  exact o_end (by kernel_rfl) (by kernel_rfl)
  obtain ⟨H20, r18, c19, hF⟩ := bind2_inv hF
  refine w_regO ⟨[], [], H20⟩ ?_ ?_
  refine o_run 4 S49 (by kernel_rfl) (by kernel_rfl) ?_
  refine o_one ⟨[E6, E5, E31, E32, E33, E34, (38, .one .top (.int .i64 r18))], [], H20⟩ (st_call (d := (some 38)) (fz := false) (pure := false) (own := false) S49 (ok_emit_Code_Put H17 c19) (by kernel_rfl) (by kernel_rfl)) ?_
  exact o_end (by kernel_rfl) (by kernel_rfl)
  obtain e0 := some1_inv hF
  subst e0
  exact fin_imp (v := .tup []) (by kernel_rfl) (by kernel_rfl) (by kernel_rfl)
noncomputable def item_Gen_Exception (H : Heap) (p0 : Ptr) (p1 : T_scope_Object) (p2 : Int) : Option (Heap) :=
  if (decide (p1.Module_ < 0)) = true then ((p0).bnd fun i2 o3 =>
  bind1 (get_item_Gen H i2 o3) fun x5 =>
  bind1 (emit_Code_Number H x5.Code_ p2 p1.N_) fun H8 =>
  some H8)
  else ((p0).bnd fun i9 o10 =>
  bind1 (get_item_Gen H i9 o10) fun x12 =>
  bind1 (emit_Code_Fix H x12.Code_ 2 p1.Module_ (IntKind.wrap .i64 p1.N_) p2) fun H15 =>
  some H15)
theorem ok_item_Gen_Exception (H : Heap) {p0 : Ptr} {p1 : T_scope_Object} {p2 : Int} {Hr : Heap} (hF : item_Gen_Exception H p0 p1 p2 = some Hr) : evS X 51 [.one .top (Ptr.av p0), .agg (m1_scope_Object p1), .one .top (.int .i64 p2)] H = some (.tup [], Hr) := by
  let E1 : Ptr → EN := fun z0 => (0, .one .top (Ptr.av z0))
  let E2 : EN := (2, .one .top (.int .i64 p2))
  let E3 : EN := (4, .one .top (.loc 4 0))
  let B4 : EB := (4, (m1_scope_Object p1))
  let E9 : EN := (13, .one .top (.int .i64 p2))
  let E10 : EN := (14, .one .top (.loc 4 4))
  let E11 : EN := (15, .one .top (.int .i32 p1.N_))
  let E16 : EN := (21, .one .top (.loc 4 5))
  let E17 : EN := (22, .one .top (.int .i64 p1.Module_))
  let E18 : EN := (23, .one .top (.loc 4 4))
  let E19 : EN := (24, .one .top (.int .i32 p1.N_))
  let E20 : EN := (25, .one .top (.int .i64 (IntKind.wrap .i64 p1.N_)))
  let E21 : EN := (26, .one .top (.int .i64 p2))
  let S22 : Ptr → St := fun z0 => ⟨[(E1 z0), E2, E3], [B4], H⟩
  refine w_fun Try.func51 rfl (by kernel_rfl) false (by kernel_rfl) (s0 := (⟨[(E1 p0), (1, .agg (m1_scope_Object p1)), E2], [], H⟩ : St)) (by kernel_rfl) ?_
  unfold item_Gen_Exception at hF
  refine w_seq ?_
  refine w_reg (S22 p0) (by generalize p0 = qp0; cases qp0 <;> kernel_rfl) ?_
  refine w_seq ?_
  refine w_seq ?_
  refine w_reg ⟨[(E1 p0), E2, E3, (8, .one .top (.bool (decide (p1.Module_ < 0))))], [B4], H⟩ (by generalize p0 = qp0; cases qp0 <;> kernel_rfl) ?_
  rcases if_inv hF with ⟨h1, hF⟩ | ⟨h1, hF⟩
  refine w_cT (m := .top) h1 (s1 := (S22 p0)) (by kernel_rfl) (by kernel_rfl) ?_
  refine w_seq ?_
  obtain ⟨i2, o3, h4, hF⟩ := pbnd_inv hF
  let E5 : EN := (0, .one .top (.obj i2 o3))
  let E6 : EN := (9, .one .top (.obj i2 o3))
  let E7 : EN := (10, .one .top (.obj i2 o3))
  let E8 : EN := (11, .one .top (.obj i2 o3))
  let S23 : St := ⟨[E5, E2, E3, E6, E7, E8, E9, E10, E11], [B4], H⟩
  obtain ⟨x5, V6, hF⟩ := bind1_inv hF
  replace V6 := hgetT_inv V6
  obtain ⟨H8, c7, hF⟩ := bind1_inv hF
  refine w_regD (.take 0 (.take 1 (.take 2 (.take 4 (.take 5 (.take 6 (.last 3 (.last 7 .done)))))))) (by kernel_rfl) (⟨[], [], H8⟩ : St) ?_ ?_
  refine d_take ⟨[(E1 p0), E2, E3, (9, .one .top (Ptr.av p0))], [B4], H⟩ (by generalize p0 = qp0; cases qp0 <;> kernel_rfl) ?_
  refine d_eq (congrArg (fun q => (⟨[(0, .one .top (Ptr.av q)), E2, E3, (9, .one .top (Ptr.av q))], [B4], H⟩ : St)) h4) ?_
  refine d_take ⟨[E5, E2, E3, E6, E7], [B4], H⟩ (by kernel_rfl) ?_
  refine d_take ⟨[E5, E2, E3, E6, E7, E8], [B4], H⟩ (by generalize x5.Code_ = qp0; generalize x5.Proc_.frame_ = qp1; cases qp0 <;> cases qp1 <;> kernel_rfl) ?_
  refine d_take ⟨[E5, E2, E3, E6, E7, E8, E9], [B4], H⟩ (by generalize x5.Code_ = qp0; generalize x5.Proc_.frame_ = qp1; cases qp0 <;> cases qp1 <;> kernel_rfl) ?_
  refine d_take ⟨[E5, E2, E3, E6, E7, E8, E9, E10], [B4], H⟩ (by generalize x5.Code_ = qp0; generalize x5.Proc_.frame_ = qp1; cases qp0 <;> cases qp1 <;> kernel_rfl) ?_
  refine d_take S23 (by generalize x5.Code_ = qp0; generalize x5.Proc_.frame_ = qp1; cases qp0 <;> cases qp1 <;> kernel_rfl) ?_
  refine d_last ⟨[E5, E2, E3, E6, E7, E8, (12, .one .top (Ptr.av x5.Code_)), E9, E10, E11], [B4], H⟩ (st_ld (X := X) S23 26 V6 0 1 false (.one .top (Ptr.av x5.Code_)) (some 12) (by kernel_rfl) (by kernel_rfl) (by kernel_rfl) (by kernel_rfl) (by kernel_rfl) (by generalize x5.Code_ = qp0; generalize x5.Proc_.frame_ = qp1; cases qp0 <;> cases qp1 <;> kernel_rfl)) ?_
  refine d_last ⟨[E5, E2, E3, E6, E7, E8, (12, .one .top (Ptr.av x5.Code_)), E9, E10, E11, (16, .tup [])], [B4], H8⟩ (st_call (d := (some 16)) (fz := false) (pure := false) (own := false) (⟨[E5, E2, E3, E6, E7, E8, (12, .one .top (Ptr.av x5.Code_)), E9, E10, E11], [B4], H⟩ : St) (ok_emit_Code_Number H c7) (by generalize x5.Code_ = qp0; generalize x5.Proc_.frame_ = qp1; cases qp0 <;> cases qp1 <;> kernel_rfl) (by generalize x5.Code_ = qp0; generalize x5.Proc_.frame_ = qp1; cases qp0 <;> cases qp1 <;> kernel_rfl)) ?_
  exact d_end (by kernel_rfl)
  refine w_ret ?_
  obtain e0 := some1_inv hF
  subst e0
  exact fin_imp (v := .tup []) (by kernel_rfl) (by kernel_rfl) (by kernel_rfl)
  refine w_cF (m := .top) h1 (s1 := (S22 p0)) (by kernel_rfl) (by kernel_rfl) ?_
  refine w_skip ?_
  obtain ⟨i9, o10, h11, hF⟩ := pbnd_inv hF
  let E12 : EN := (0, .one .top (.obj i9 o10))
  let E13 : EN := (17, .one .top (.obj i9 o10))
  let E14 : EN := (18, .one .top (.obj i9 o10))
  let E15 : EN := (19, .one .top (.obj i9 o10))
  let S24 : St := ⟨[E12, E2, E3, E13, E14, E15, E16, E17, E18, E19, E20, E21], [B4], H⟩
  obtain ⟨x12, V13, hF⟩ := bind1_inv hF
  replace V13 := hgetT_inv V13
  obtain ⟨H15, c14, hF⟩ := bind1_inv hF
  refine w_regD (.take 0 (.take 1 (.take 2 (.take 4 (.take 5 (.take 6 (.take 7 (.take 8 (.take 9 (.last 3 (.last 10 .done))))))))))) (by kernel_rfl) (⟨[], [], H15⟩ : St) ?_ ?_
  refine d_take ⟨[(E1 p0), E2, E3, (17, .one .top (Ptr.av p0))], [B4], H⟩ (by generalize p0 = qp0; cases qp0 <;> kernel_rfl) ?_
  refine d_eq (congrArg (fun q => (⟨[(0, .one .top (Ptr.av q)), E2, E3, (17, .one .top (Ptr.av q))], [B4], H⟩ : St)) h11) ?_
  refine d_take ⟨[E12, E2, E3, E13, E14], [B4], H⟩ (by kernel_rfl) ?_
  refine d_take ⟨[E12, E2, E3, E13, E14, E15], [B4], H⟩ (by generalize x12.Code_ = qp0; generalize x12.Proc_.frame_ = qp1; cases qp0 <;> cases qp1 <;> kernel_rfl) ?_
  refine d_take ⟨[E12, E2, E3, E13, E14, E15, E16], [B4], H⟩ (by generalize x12.Code_ = qp0; generalize x12.Proc_.frame_ = qp1; cases qp0 <;> cases qp1 <;> kernel_rfl) ?_
  refine d_take ⟨[E12, E2, E3, E13, E14, E15, E16, E17], [B4], H⟩ (by generalize x12.Code_ = qp0; generalize x12.Proc_.frame_ = qp1; cases qp0 <;> cases qp1 <;> kernel_rfl) ?_
  refine d_take ⟨[E12, E2, E3, E13, E14, E15, E16, E17, E18], [B4], H⟩ (by generalize x12.Code_ = qp0; generalize x12.Proc_.frame_ = qp1; cases qp0 <;> cases qp1 <;> kernel_rfl) ?_
  refine d_take ⟨[E12, E2, E3, E13, E14, E15, E16, E17, E18, E19], [B4], H⟩ (by generalize x12.Code_ = qp0; generalize x12.Proc_.frame_ = qp1; cases qp0 <;> cases qp1 <;> kernel_rfl) ?_
  refine d_take ⟨[E12, E2, E3, E13, E14, E15, E16, E17, E18, E19, E20], [B4], H⟩ (by generalize x12.Code_ = qp0; generalize x12.Proc_.frame_ = qp1; cases qp0 <;> cases qp1 <;> kernel_rfl) ?_
  refine d_take S24 (by generalize x12.Code_ = qp0; generalize x12.Proc_.frame_ = qp1; cases qp0 <;> cases qp1 <;> kernel_rfl) ?_
  refine d_last ⟨[E12, E2, E3, E13, E14, E15, (20, .one .top (Ptr.av x12.Code_)), E16, E17, E18, E19, E20, E21], [B4], H⟩ (st_ld (X := X) S24 26 V13 0 1 false (.one .top (Ptr.av x12.Code_)) (some 20) (by kernel_rfl) (by kernel_rfl) (by kernel_rfl) (by kernel_rfl) (by kernel_rfl) (by generalize x12.Code_ = qp0; generalize x12.Proc_.frame_ = qp1; cases qp0 <;> cases qp1 <;> kernel_rfl)) ?_
  refine d_last ⟨[E12, E2, E3, E13, E14, E15, (20, .one .top (Ptr.av x12.Code_)), E16, E17, E18, E19, E20, E21, (27, .tup [])], [B4], H15⟩ (st_call (d := (some 27)) (fz := false) (pure := false) (own := false) (⟨[E12, E2, E3, E13, E14, E15, (20, .one .top (Ptr.av x12.Code_)), E16, E17, E18, E19, E20, E21], [B4], H⟩ : St) (ok_emit_Code_Fix H c14) (by generalize x12.Code_ = qp0; generalize x12.Proc_.frame_ = qp1; cases qp0 <;> cases qp1 <;> kernel_rfl) (by generalize x12.Code_ = qp0; generalize x12.Proc_.frame_ = qp1; cases qp0 <;> cases qp1 <;> kernel_rfl)) ?_
  exact d_end (by kernel_rfl)
  obtain e0 := some1_inv hF
  subst e0
  exact fin_imp (v := .tup []) (by kernel_rfl) (by kernel_rfl) (by kernel_rfl)
noncomputable def item_Gen_Raise (H : Heap) (p0 : Ptr) (p1 : T_scope_Object) : Option (Heap) :=
  bind1 (item_Gen_Exception H p0 p1 0) fun H2 =>
  (p0).bnd fun i3 o4 =>
  bind1 (get_item_Gen H2 i3 o4) fun x6 =>
  bind2 (emit_Code_Reg H2 x6.Code_ 29 0) fun H10 r8 =>
  some H10
theorem ok_item_Gen_Raise (H : Heap) {p0 : Ptr} {p1 : T_scope_Object} {Hr : Heap} (hF : item_Gen_Raise H p0 p1 = some Hr) : evS X 34 [.one .top (Ptr.av p0), .agg (m0_scope_Object p1)] H = some (.tup [], Hr) := by
  let E1 : Ptr → EN := fun z0 => (0, .one .top (Ptr.av z0))
  let E2 : EN := (3, .one .top (.loc 3 0))
  let B3 : EB := (3, (m0_scope_Object p1))
  let E4 : Ptr → EN := fun z0 => (4, .one .top (Ptr.av z0))
  let E5 : EN := (5, .agg (m2_scope_Object p1))
  let S10 : Ptr → St := fun z0 => ⟨[(E1 z0), E2, (E4 z0), E5], [B3], H⟩
  refine w_fun Try.func34 rfl (by kernel_rfl) false (by kernel_rfl) (s0 := (⟨[(E1 p0), (1, .agg (m0_scope_Object p1))], [], H⟩ : St)) (by kernel_rfl) ?_
  unfold item_Gen_Raise at hF
  refine w_seq ?_
  refine w_reg ⟨[(E1 p0), E2], [B3], H⟩ (by generalize p0 = qp0; cases qp0 <;> kernel_rfl) ?_
  refine w_seq ?_
  obtain ⟨H2, c1, hF⟩ := bind1_inv hF
  refine w_regO ⟨[(E1 p0)], [], H2⟩ ?_ ?_
  refine o_run 2 (S10 p0) (by kernel_rfl) (by generalize p0 = qp0; cases qp0 <;> kernel_rfl) ?_
  refine o_one ⟨[(E1 p0), E2, (E4 p0), E5, (6, .tup [])], [B3], H2⟩ (st_call (d := (some 6)) (fz := false) (pure := false) (own := false) (S10 p0) (ok_item_Gen_Exception H c1) (by generalize p0 = qp0; cases qp0 <;> kernel_rfl) (by generalize p0 = qp0; cases qp0 <;> kernel_rfl)) ?_
  exact o_end (by kernel_rfl) (by kernel_rfl)
  obtain ⟨i3, o4, h5, hF⟩ := pbnd_inv hF
  let E6 : EN := (0, .one .top (.obj i3 o4))
  let E7 : EN := (7, .one .top (.obj i3 o4))
  let E8 : EN := (8, .one .top (.obj i3 o4))
  let E9 : EN := (9, .one .top (.obj i3 o4))
  let S11 : St := ⟨[E6, E7, E8, E9], [], H2⟩
  obtain ⟨x6, V7, hF⟩ := bind1_inv hF
  replace V7 := hgetT_inv V7
  obtain ⟨H10, r8, c9, hF⟩ := bind2_inv hF
  refine w_regO ⟨[], [], H10⟩ ?_ ?_
  refine o_run 1 ⟨[(E1 p0), (7, .one .top (Ptr.av p0))], [], H2⟩ (by kernel_rfl) (by generalize p0 = qp0; cases qp0 <;> kernel_rfl) ?_
  refine o_eq (congrArg (fun q => (⟨[(0, .one .top (Ptr.av q)), (7, .one .top (Ptr.av q))], [], H2⟩ : St)) h5) ?_
  refine o_run 1 ⟨[E6, E7, E8], [], H2⟩ (by kernel_rfl) (by kernel_rfl) ?_
  refine o_run 1 S11 (by kernel_rfl) (by generalize x6.Code_ = qp0; generalize x6.Proc_.frame_ = qp1; cases qp0 <;> cases qp1 <;> kernel_rfl) ?_
  refine o_one ⟨[E6, E7, E8, E9, (10, .one .top (Ptr.av x6.Code_))], [], H2⟩ (st_ld (X := X) S11 26 V7 0 1 false (.one .top (Ptr.av x6.Code_)) (some 10) (by kernel_rfl) (by kernel_rfl) (by kernel_rfl) (by kernel_rfl) (by kernel_rfl) (by generalize x6.Code_ = qp0; generalize x6.Proc_.frame_ = qp1; cases qp0 <;> cases qp1 <;> kernel_rfl)) ?_
  refine o_one ⟨[E6, E7, E8, E9, (10, .one .top (Ptr.av x6.Code_)), (11, .one .top (.int .i64 r8))], [], H10⟩ (st_call (d := (some 11)) (fz := false) (pure := false) (own := false) (⟨[E6, E7, E8, E9, (10, .one .top (Ptr.av x6.Code_))], [], H2⟩ : St) (ok_emit_Code_Reg H2 c9) (by generalize x6.Code_ = qp0; generalize x6.Proc_.frame_ = qp1; cases qp0 <;> cases qp1 <;> kernel_rfl) (by generalize x6.Code_ = qp0; generalize x6.Proc_.frame_ = qp1; cases qp0 <;> cases qp1 <;> kernel_rfl)) ?_
  exact o_end (by kernel_rfl) (by kernel_rfl)
  obtain e0 := some1_inv hF
  subst e0
  exact fin_imp (v := .tup []) (by kernel_rfl) (by kernel_rfl) (by kernel_rfl)
end Go.Proofs.Abs
