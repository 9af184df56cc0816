import Derived.Test.YtjheniapmdcelaaCpuOnesF2
set_option linter.unusedVariables false
set_option linter.unusedSimpArgs false
set_option linter.unusedSectionVars false
namespace Go.Proofs.Abs
open Go Go.Proofs
set_option linter.unusedVariables false
set_option maxRecDepth 100000
set_option maxHeartbeats 0
noncomputable def Jk (j1 : Int) (j2 : T_ref04_Cpu) : Option (T_ref04_Cpu) :=
  some (T_ref04_Cpu.mk j2.R_ j1 j2.EPC_ j2.Cause_ j2.State_ j2.Why_ j2.Steps_ j2.Taken_ j2.Out_ j2.Entry_ j2.Vector_ j2.Guard_ j2.Limit_ j2.Input_)
noncomputable def Jl (j4 : Int) (j5 : T_ref04_Cpu) : Option (T_ref04_Cpu) :=
  Jk j4 j5
noncomputable def Jm (p0 : T_ref04_Cpu) (j7 : T_ref04_Cpu) : Option (T_ref04_Cpu) :=
  Jl (IntKind.wrap .u32 (p0.PC_ + 4)) j7
noncomputable def Jn (p0 : T_ref04_Cpu) (j12 : T_ref04_Cpu) : Option (T_ref04_Cpu) :=
  Jm p0 j12
noncomputable def Jo (p0 : T_ref04_Cpu) (j23 : T_ref04_Cpu) : Option (T_ref04_Cpu) :=
  Jn p0 j23
noncomputable def Jp (p0 : T_ref04_Cpu) (j29 : T_ref04_Cpu) : Option (T_ref04_Cpu) :=
  Jo p0 j29
noncomputable def Jq (p0 : T_ref04_Cpu) (j40 : T_ref04_Cpu) : Option (T_ref04_Cpu) :=
  Jp p0 j40
noncomputable def Jr (p0 : T_ref04_Cpu) (j45 : T_ref04_Cpu) : Option (T_ref04_Cpu) :=
  Jq p0 j45
noncomputable def Js (p0 : T_ref04_Cpu) (j54 : T_ref04_Cpu) : Option (T_ref04_Cpu) :=
  Jr p0 j54
noncomputable def Ch  (p0 : T_ref04_Cpu) (p1 : T_ref02_Instr) (p2 : Int) : Option (T_ref04_Cpu) :=
  if (p1.Op_ == 24) = true then (Jk p2 p0)
  else (if (p1.Op_ == 25) = true then (Jl p2 (T_ref04_Cpu.mk (Ij [(p0.R_.g 0), (p0.R_.g 1), (p0.R_.g 2), (p0.R_.g 3), (p0.R_.g 4), (p0.R_.g 5), (p0.R_.g 6), (p0.R_.g 7), (p0.R_.g 8), (p0.R_.g 9), (p0.R_.g 10), (p0.R_.g 11), (p0.R_.g 12), (p0.R_.g 13), (IntKind.wrap .u32 (p0.PC_ + 4)), (p0.R_.g 15)] : Arr 16 Int) p0.PC_ p0.EPC_ p0.Cause_ p0.State_ p0.Why_ p0.Steps_ p0.Taken_ p0.Out_ p0.Entry_ p0.Vector_ p0.Guard_ p0.Limit_ p0.Input_))
  else (if (p1.Op_ == 26) = true then (if (decide (p2 ≥ (IntKind.wrap .u32 p1.Imm_))) = true then (Af (Fx p0 (IntKind.wrap .u32 p1.B_)) fun r10 =>
  some r10)
  else (Jm p0 p0))
  else (if (p1.Op_ == 27) = true then (if (p2 == 0) = true then (Af (Fx p0 2) fun r15 =>
  some r15)
  else (Jn p0 p0))
  else (if (p1.Op_ == 28) = true then (Af (Fx p0 (IntKind.wrap .u32 p1.Imm_)) fun r18 =>
  some r18)
  else (if (p1.Op_ == 29) = true then (Af (Fx p0 p2) fun r21 =>
  some r21)
  else (if (p1.Op_ == 30) = true then (Af (app 16 ([] : List T_api_Event) p0.Out_) fun v25 =>
  Af (app 16 v25 ([(T_api_Event.mk p1.Imm_ (IntKind.wrap .i32 p2))] : List T_api_Event)) fun v27 =>
  Jo p0 (T_ref04_Cpu.mk p0.R_ p0.PC_ p0.EPC_ p0.Cause_ p0.State_ p0.Why_ p0.Steps_ p0.Taken_ v27 p0.Entry_ p0.Vector_ p0.Guard_ p0.Limit_ p0.Input_))
  else (if (p1.Op_ == 31) = true then (if (decide (p0.Taken_ ≥ (p0.Input_.length : Int))) = true then (Af (Fx p0 7) fun r32 =>
  some r32)
  else (Af (gi p0.Input_ p0.Taken_) fun x34 =>
  Af (ga p0.R_ p1.A_) fun v36 =>
  Af (sa p0.R_ p1.A_ (IntKind.wrap .u32 x34)) fun v38 =>
  Jp p0 (T_ref04_Cpu.mk v38 p0.PC_ p0.EPC_ p0.Cause_ p0.State_ p0.Why_ p0.Steps_ (IntKind.wrap .i64 (p0.Taken_ + 1)) p0.Out_ p0.Entry_ p0.Vector_ p0.Guard_ p0.Limit_ p0.Input_)))
  else (if (p1.Op_ == 32) = true then (if (decide ((IntKind.wrap .i32 p2) < (IntKind.wrap .i32 p0.Limit_))) = true then (Af (Fx p0 5) fun r43 =>
  some r43)
  else (Jq p0 p0))
  else (if (p1.Op_ == 33) = true then (if (decide (p1.Imm_ > 1)) = true then (Af (Gp p0 20) fun r48 =>
  some r48)
  else (Af (ga p0.R_ p1.A_) fun v50 =>
  Af (sa p0.R_ p1.A_ p0.EPC_) fun v52 =>
  if (p1.Imm_ == 1) = true then (Af (ga v52 p1.A_) fun v56 =>
  Af (sa v52 p1.A_ p0.Cause_) fun v58 =>
  Js p0 (T_ref04_Cpu.mk v58 p0.PC_ p0.EPC_ p0.Cause_ p0.State_ p0.Why_ p0.Steps_ p0.Taken_ p0.Out_ p0.Entry_ p0.Vector_ p0.Guard_ p0.Limit_ p0.Input_))
  else (Js p0 (T_ref04_Cpu.mk v52 p0.PC_ p0.EPC_ p0.Cause_ p0.State_ p0.Why_ p0.Steps_ p0.Taken_ p0.Out_ p0.Entry_ p0.Vector_ p0.Guard_ p0.Limit_ p0.Input_))))
  else (Jr p0 p0))))))))))
theorem Wj (H : Ah) {p0 : T_ref04_Cpu} {p1 : T_ref02_Instr} {p2 : Int} {ra : T_ref04_Cpu} (hF : Ch p0 p1 p2 = some ra) : evS X 119 [.agg (Al p0), .agg (Az p1), .one .top (.int .u32 p2)] H = some (.agg (Ak ra), H) := by
 let E1 : EN := (3, vl 3 0)
 let E2 : EN := (7, vu (IntKind.wrap .u32 (p0.PC_ + 4)))
 let E3 : EN := (2, vu p2)
 let B4 : EB := (3, (Al p0))
 let B5 : EB := (4, (Az p1))
 let B6 : EB := (6, (List.replicate 19 (.top, .int .u32 0) ++ List.replicate 4 (.top, .int .i64 0) ++ [((.own 1), .sl 2 (List.map Ad ([] : List T_api_Event)))] ++ List.replicate 4 (.top, .int .u32 0) ++ [((.own 1), .sl 1 (List.map (eI .i32) ([] : List Int)))]))
 let E7 : EN := (6, vl 6 0)
 let B8 : EB := (3, (arM .u32 14 p0.R_ ++ [(.top, .int .u32 (IntKind.wrap .u32 (p0.PC_ + 4))), (.top, .int .u32 (p0.R_.g 15)), (.top, .int .u32 p0.PC_), (.top, .int .u32 p0.EPC_), (.top, .int .u32 p0.Cause_), (.top, .int .i64 p0.State_), (.top, .int .i64 p0.Why_), (.top, .int .i64 p0.Steps_), (.top, .int .i64 p0.Taken_), ((.own 1), .sl 2 (List.map Ad p0.Out_)), (.top, .int .u32 p0.Entry_), (.top, .int .u32 p0.Vector_), (.top, .int .u32 p0.Guard_), (.top, .int .u32 p0.Limit_), ((.own 0), .sl 1 (List.map (eI .i32) p0.Input_))]))
 let E9 : EN := (32, vu (IntKind.wrap .u32 p1.B_))
 let B10 : EB := (3, (arM .u32 16 p0.R_ ++ [(.top, .int .u32 p0.PC_), (.top, .int .u32 p0.EPC_), (.top, .int .u32 p0.Cause_), (.top, .int .i64 p0.State_), (.top, .int .i64 p0.Why_), (.top, .int .i64 p0.Steps_), (.top, .int .i64 p0.Taken_), (.top, .junk), (.top, .int .u32 p0.Entry_), (.top, .int .u32 p0.Vector_), (.top, .int .u32 p0.Guard_), (.top, .int .u32 p0.Limit_), ((.own 0), .sl 1 (List.map (eI .i32) p0.Input_))]))
 let E12 : EN := (38, .agg (arM .u32 16 p0.R_ ++ [(.top, .int .u32 p0.PC_), (.top, .int .u32 p0.EPC_), (.top, .int .u32 p0.Cause_), (.top, .int .i64 p0.State_), (.top, .int .i64 p0.Why_), (.top, .int .i64 p0.Steps_), (.top, .int .i64 p0.Taken_), (.top, .junk), (.top, .int .u32 p0.Entry_), (.top, .int .u32 p0.Vector_), (.top, .int .u32 p0.Guard_), (.top, .int .u32 p0.Limit_), ((.own 0), .sl 1 (List.map (eI .i32) p0.Input_))]))
 let E14 : EN := (45, vu (IntKind.wrap .u32 p1.Imm_))
 let E16 : EN := (50, vu p2)
 let E17 : EN := (49, .agg (arM .u32 16 p0.R_ ++ [(.top, .int .u32 p0.PC_), (.top, .int .u32 p0.EPC_), (.top, .int .u32 p0.Cause_), (.top, .int .i64 p0.State_), (.top, .int .i64 p0.Why_), (.top, .int .i64 p0.Steps_), (.top, .int .i64 p0.Taken_), (.top, .junk), (.top, .int .u32 p0.Entry_), (.top, .int .u32 p0.Vector_), (.top, .int .u32 p0.Guard_), (.top, .int .u32 p0.Limit_), ((.own 0), .sl 1 (List.map (eI .i32) p0.Input_))]))
 let E20 : EN := (58, vl 4 4)
 let E21 : EN := (59, vi p1.Imm_)
 let E22 : EN := (61, .one .top (.int .i32 (IntKind.wrap .i32 p2)))
 let E23 : EN := (55, vl 3 23)
 let E25 : EN := (73, vb (decide (p0.Taken_ ≥ (p0.Input_.length : Int))))
 let E26 : EN := (72, vi (p0.Input_.length : Int))
 let E27 : EN := (74, .agg (arM .u32 16 p0.R_ ++ [(.top, .int .u32 p0.PC_), (.top, .int .u32 p0.EPC_), (.top, .int .u32 p0.Cause_), (.top, .int .i64 p0.State_), (.top, .int .i64 p0.Why_), (.top, .int .i64 p0.Steps_), (.top, .int .i64 p0.Taken_), (.top, .junk), (.top, .int .u32 p0.Entry_), (.top, .int .u32 p0.Vector_), (.top, .int .u32 p0.Guard_), (.top, .int .u32 p0.Limit_), ((.own 0), .sl 1 (List.map (eI .i32) p0.Input_))]))
 let E30 : EN := (80, vl 3 22)
 let E31 : EN := (85, vl 3 0)
 let E32 : EN := (79, .one (.own 0) (.sl 1 (List.map (eI .i32) p0.Input_)))
 let E34 : EN := (81, vi p0.Taken_)
 let E35 : EN := (99, .agg (arM .u32 16 p0.R_ ++ [(.top, .int .u32 p0.PC_), (.top, .int .u32 p0.EPC_), (.top, .int .u32 p0.Cause_), (.top, .int .i64 p0.State_), (.top, .int .i64 p0.Why_), (.top, .int .i64 p0.Steps_), (.top, .int .i64 p0.Taken_), (.top, .junk), (.top, .int .u32 p0.Entry_), (.top, .int .u32 p0.Vector_), (.top, .int .u32 p0.Guard_), (.top, .int .u32 p0.Limit_), ((.own 0), .sl 1 (List.map (eI .i32) p0.Input_))]))
 let E37 : EN := (106, .agg (arM .u32 16 p0.R_ ++ [(.top, .int .u32 p0.PC_), (.top, .int .u32 p0.EPC_), (.top, .int .u32 p0.Cause_), (.top, .int .i64 p0.State_), (.top, .int .i64 p0.Why_), (.top, .int .i64 p0.Steps_), (.top, .int .i64 p0.Taken_), (.top, .junk), (.top, .int .u32 p0.Entry_), (.top, .int .u32 p0.Vector_), (.top, .int .u32 p0.Guard_), (.top, .int .u32 p0.Limit_), ((.own 0), .sl 1 (List.map (eI .i32) p0.Input_))]))
 let E40 : EN := (113, vl 3 (0 + Int.toNat p1.A_))
 let E42 : EN := (122, vl 3 (0 + Int.toNat p1.A_))
 let L43 : List EN := [E1, (4, vl 4 0), E7, E2]
 let L44 : List EN := [E3] ++ L43
 let L45 : List EN := [E20, E21, (60, vu p2), E22, (62, .agg [(.top, .int .i64 p1.Imm_), (.top, .int .i32 (IntKind.wrap .i32 p2))])]
 let L46 : List EN := [E23, (56, .one .bl (.sl 2 (List.map Ad p0.Out_)))]
 let L47 : List EN := L44 ++ [(54, .one .top .junk)] ++ L46
 let L48 : List EN := L47 ++ [(57, .one .top .junk)] ++ L45 ++ [(63, .one .top .junk)]
 let L49 : List EN := [E1, E7]
 let L50 : List EN := L45 ++ [(63, .one (.own 1) (.sl 2 (List.map Ad ([(T_api_Event.mk p1.Imm_ (IntKind.wrap .i32 p2))] : List T_api_Event))))]
 let L51 : List EN := L43 ++ [(76, vl 4 1), (77, vi p1.A_), (78, vl 3 28)]
 let L52 : List EN := [E1, E7, E2]
 let L53 : List EN := L44 ++ [(12, vi p1.Op_)]
 let L56 : List EN := [E1, (4, vl 4 0), E7]
 let L57 : List EN := L44 ++ [(54, .one (.own 1) (.sl 2 (List.map Ad ([] : List T_api_Event))))]
 let L59 : List EN := L48 ++ [(64, .one .top .junk), (65, vl 3 23)]
 let L62 : List EN := [E3] ++ L49
 let L63 : List EN := L44 ++ [E23]
 let L65 : List EN := L57 ++ L46 ++ L50
 let L66 : List EN := L43 ++ [(108, vl 4 1), (109, vi p1.A_), (110, vl 3 17), (111, vu p0.EPC_), (112, vl 3 0)]
 let L67 : List EN := L43 ++ [(117, vl 4 1), (118, vi p1.A_), (119, vl 3 18), (120, vu p0.Cause_), (121, vl 3 0)]
 let L68 : List EN := L51 ++ [E32, E30, E34, E31]
 let L69 : List EN := L43 ++ [(68, vl 3 22), (69, vi p0.Taken_), (70, vl 3 28), (71, .one (.own 0) (.sl 1 (List.map (eI .i32) p0.Input_)))]
 let L70 : List EN := L56 ++ [(29, .agg (arM .u32 16 p0.R_ ++ [(.top, .int .u32 p0.PC_), (.top, .int .u32 p0.EPC_), (.top, .int .u32 p0.Cause_), (.top, .int .i64 p0.State_), (.top, .int .i64 p0.Why_), (.top, .int .i64 p0.Steps_), (.top, .int .i64 p0.Taken_), (.top, .junk), (.top, .int .u32 p0.Entry_), (.top, .int .u32 p0.Vector_), (.top, .int .u32 p0.Guard_), (.top, .int .u32 p0.Limit_), ((.own 0), .sl 1 (List.map (eI .i32) p0.Input_))])), (30, vl 4 2), (31, vi p1.B_), E9]
 let L71 : List EN := L56 ++ [(42, .agg (arM .u32 16 p0.R_ ++ [(.top, .int .u32 p0.PC_), (.top, .int .u32 p0.EPC_), (.top, .int .u32 p0.Cause_), (.top, .int .i64 p0.State_), (.top, .int .i64 p0.Why_), (.top, .int .i64 p0.Steps_), (.top, .int .i64 p0.Taken_), (.top, .junk), (.top, .int .u32 p0.Entry_), (.top, .int .u32 p0.Vector_), (.top, .int .u32 p0.Guard_), (.top, .int .u32 p0.Limit_), ((.own 0), .sl 1 (List.map (eI .i32) p0.Input_))])), (43, vl 4 4), (44, vi p1.Imm_), E14]
 let S72 : St := ⟨[E3] ++ L52, [B4, B6], H⟩
 refine yf Try.func119 true ⟨[(0, .agg (Al p0)), (1, .agg (Az p1)), E3], [], H⟩ ?_
 unfold Ch at hF
 refine ysg ⟨[E3] ++ L56, [B4, B5, B6], H⟩ ?_
 refine ysg ⟨L44, [B4, B5, B6], H⟩ ?_
 refine Ag ?_
 refine ysg ⟨L53, [B4, B5, B6], H⟩ ?_
 refine Bt ?_
 refine ysg ⟨L53 ++ [(13, vb (p1.Op_ == 24))], [B4, B5, B6], H⟩ ?_
 refine As (α := (Int × T_ref04_Cpu)) (fun x => (⟨L49 ++ [(7, vu x.1)], [(3, (Al x.2)), B6], H⟩ : St)) (fun x => Jk x.1 x.2 = some ra) ?_ ?_
 rintro ⟨j1, j2⟩ hF
 replace hF : Jk j1 j2 = some ra := hF
 unfold Jk at hF
 refine ysg ⟨L49, [(3, (arM .u32 16 j2.R_ ++ [(.top, .int .u32 j1), (.top, .int .u32 j2.EPC_), (.top, .int .u32 j2.Cause_), (.top, .int .i64 j2.State_), (.top, .int .i64 j2.Why_), (.top, .int .i64 j2.Steps_), (.top, .int .i64 j2.Taken_), ((.own 1), .sl 2 (List.map Ad j2.Out_)), (.top, .int .u32 j2.Entry_), (.top, .int .u32 j2.Vector_), (.top, .int .u32 j2.Guard_), (.top, .int .u32 j2.Limit_), ((.own 0), .sl 1 (List.map (eI .i32) j2.Input_))])), B6], H⟩ ?_
 refine ysg ⟨[E7], [(6, (arM .u32 16 j2.R_ ++ [(.top, .int .u32 j1), (.top, .int .u32 j2.EPC_), (.top, .int .u32 j2.Cause_), (.top, .int .i64 j2.State_), (.top, .int .i64 j2.Why_), (.top, .int .i64 j2.Steps_), (.top, .int .i64 j2.Taken_), ((.own 1), .sl 2 (List.map Ad j2.Out_)), (.top, .int .u32 j2.Entry_), (.top, .int .u32 j2.Vector_), (.top, .int .u32 j2.Guard_), (.top, .int .u32 j2.Limit_), ((.own 0), .sl 1 (List.map (eI .i32) j2.Input_))]))], H⟩ ?_
 refine Au ?_
 obtain e0 := Am hF
 subst e0
 exact yp (.agg (arM .u32 16 j2.R_ ++ [(.top, .int .u32 j1), (.top, .int .u32 j2.EPC_), (.top, .int .u32 j2.Cause_), (.top, .int .i64 j2.State_), (.top, .int .i64 j2.Why_), (.top, .int .i64 j2.Steps_), (.top, .int .i64 j2.Taken_), ((.own 1), .sl 2 (List.map Ad j2.Out_)), (.top, .int .u32 j2.Entry_), (.top, .int .u32 j2.Vector_), (.top, .int .u32 j2.Guard_), (.top, .int .u32 j2.Limit_), ((.own 0), .sl 1 (List.map (eI .i32) j2.Input_))]))
 rcases Ae hF with ⟨h3, hF⟩ | ⟨h3, hF⟩
 refine yT h3 ⟨L62, [B4, B6], H⟩ ?_
 refine yg ⟨L49 ++ [(7, vu p2)], [B4, B6], H⟩ ?_
 exact ⟨(p2, p0), hF, (by kernel_rfl)⟩
 refine yF h3 ⟨L53, [B4, B5, B6], H⟩ ?_
 refine ysg ⟨L53 ++ [(16, vb (p1.Op_ == 25))], [B4, B5, B6], H⟩ ?_
 refine As (α := (Int × T_ref04_Cpu)) (fun x => (⟨L49 ++ [(7, vu x.1)], [(3, (Al x.2)), B6], H⟩ : St)) (fun x => Jl x.1 x.2 = some ra) ?_ ?_
 rintro ⟨j4, j5⟩ hF
 replace hF : Jl j4 j5 = some ra := hF
 unfold Jl at hF
 exact ⟨(j4, j5), hF, (by kernel_rfl)⟩
 rcases Ae hF with ⟨h6, hF⟩ | ⟨h6, hF⟩
 refine yT h6 S72 ?_
 refine ysg ⟨L62, [B8, B6], H⟩ ?_
 refine yg ⟨L49 ++ [(7, vu p2)], [B8, B6], H⟩ ?_
 exact ⟨(p2, (T_ref04_Cpu.mk (Ij [(p0.R_.g 0), (p0.R_.g 1), (p0.R_.g 2), (p0.R_.g 3), (p0.R_.g 4), (p0.R_.g 5), (p0.R_.g 6), (p0.R_.g 7), (p0.R_.g 8), (p0.R_.g 9), (p0.R_.g 10), (p0.R_.g 11), (p0.R_.g 12), (p0.R_.g 13), (IntKind.wrap .u32 (p0.PC_ + 4)), (p0.R_.g 15)] : Arr 16 Int) p0.PC_ p0.EPC_ p0.Cause_ p0.State_ p0.Why_ p0.Steps_ p0.Taken_ p0.Out_ p0.Entry_ p0.Vector_ p0.Guard_ p0.Limit_ p0.Input_)), hF, (by kernel_rfl)⟩
 refine yF h6 ⟨L53, [B4, B5, B6], H⟩ ?_
 refine ysg ⟨L53 ++ [(22, vb (p1.Op_ == 26))], [B4, B5, B6], H⟩ ?_
 refine As (α := (T_ref04_Cpu)) (fun x => (⟨L52, [(3, (Al x)), B6], H⟩ : St)) (fun x => Jm p0 x = some ra) ?_ ?_
 rintro j7 hF
 replace hF : Jm p0 j7 = some ra := hF
 unfold Jm at hF
 exact ⟨((IntKind.wrap .u32 (p0.PC_ + 4)), j7), hF, (by kernel_rfl)⟩
 rcases Ae hF with ⟨h8, hF⟩ | ⟨h8, hF⟩
 refine yT h8 ⟨L44, [B4, B5, B6], H⟩ ?_
 refine ysg ⟨L43 ++ [(28, vb (decide (p2 ≥ (IntKind.wrap .u32 p1.Imm_))))], [B4, B5, B6], H⟩ ?_
 rcases Ae hF with ⟨h9, hF⟩ | ⟨h9, hF⟩
 refine yT h9 ⟨L56, [B4, B5, B6], H⟩ ?_
 refine Ag ?_
 obtain ⟨r10, c11, hF⟩ := Ab hF
 let E11 : EN := (33, .agg (Ak r10))
 refine Aj ⟨[E7], [(6, (Ak r10))], H⟩ ?_ ?_
 refine yr 4 ⟨L56 ++ [(29, .agg (Al p0)), (30, vl 4 2), (31, vi p1.B_), E9], [B10, B5, B6], H⟩ ?_
 refine Ai ⟨L70 ++ [E11], [B10, B5, B6], H⟩ (yc (some 33) true true (⟨L70, [B10, B5, B6], H⟩ : St) (Gv H c11)) ?_
 refine yr 1 ⟨L70 ++ [E11], [B10, B5, (6, (Ak r10))], H⟩ ?_
 exact ye
 refine Au ?_
 obtain e0 := Am hF
 subst e0
 exact yp (.agg (Ak r10))
 refine yF h9 ⟨L52, [B4, B6], H⟩ ?_
 refine Ao ?_
 exact ⟨p0, hF, (by kernel_rfl)⟩
 refine yF h8 ⟨L53, [B4, B5, B6], H⟩ ?_
 refine ysg ⟨L53 ++ [(34, vb (p1.Op_ == 27))], [B4, B5, B6], H⟩ ?_
 refine As (α := (T_ref04_Cpu)) (fun x => (⟨L52, [(3, (Al x)), B6], H⟩ : St)) (fun x => Jn p0 x = some ra) ?_ ?_
 rintro j12 hF
 replace hF : Jn p0 j12 = some ra := hF
 unfold Jn at hF
 exact ⟨j12, hF, (by kernel_rfl)⟩
 rcases Ae hF with ⟨h13, hF⟩ | ⟨h13, hF⟩
 refine yT h13 S72 ?_
 refine ysg ⟨L52 ++ [(37, vb (p2 == 0))], [B4, B6], H⟩ ?_
 rcases Ae hF with ⟨h14, hF⟩ | ⟨h14, hF⟩
 refine yT h14 ⟨L49, [B4, B6], H⟩ ?_
 refine Ag ?_
 obtain ⟨r15, c16, hF⟩ := Ab hF
 let E13 : EN := (39, .agg (Ak r15))
 refine Aj ⟨[E7], [(6, (Ak r15))], H⟩ ?_ ?_
 refine yr 1 ⟨L49 ++ [(38, .agg (Al p0))], [B10, B6], H⟩ ?_
 refine Ai ⟨L49 ++ [E12, E13], [B10, B6], H⟩ (yc (some 39) true true (⟨L49 ++ [E12], [B10, B6], H⟩ : St) (Gv H c16)) ?_
 refine yr 1 ⟨L49 ++ [E12, E13], [B10, (6, (Ak r15))], H⟩ ?_
 exact ye
 refine Au ?_
 obtain e0 := Am hF
 subst e0
 exact yp (.agg (Ak r15))
 refine yF h14 ⟨L52, [B4, B6], H⟩ ?_
 refine Ao ?_
 exact ⟨p0, hF, (by kernel_rfl)⟩
 refine yF h13 ⟨L53, [B4, B5, B6], H⟩ ?_
 refine ysg ⟨L53 ++ [(40, vb (p1.Op_ == 28))], [B4, B5, B6], H⟩ ?_
 rcases Ae hF with ⟨h17, hF⟩ | ⟨h17, hF⟩
 refine yT h17 ⟨L56, [B4, B5, B6], H⟩ ?_
 refine Ag ?_
 obtain ⟨r18, c19, hF⟩ := Ab hF
 let E15 : EN := (46, .agg (Ak r18))
 refine Aj ⟨[E7], [(6, (Ak r18))], H⟩ ?_ ?_
 refine yr 4 ⟨L56 ++ [(42, .agg (Al p0)), (43, vl 4 4), (44, vi p1.Imm_), E14], [B10, B5, B6], H⟩ ?_
 refine Ai ⟨L71 ++ [E15], [B10, B5, B6], H⟩ (yc (some 46) true true (⟨L71, [B10, B5, B6], H⟩ : St) (Gv H c19)) ?_
 refine yr 1 ⟨L71 ++ [E15], [B10, B5, (6, (Ak r18))], H⟩ ?_
 exact ye
 refine Au ?_
 obtain e0 := Am hF
 subst e0
 exact yp (.agg (Ak r18))
 refine yF h17 ⟨L53, [B4, B5, B6], H⟩ ?_
 refine ysg ⟨L53 ++ [(47, vb (p1.Op_ == 29))], [B4, B5, B6], H⟩ ?_
 rcases Ae hF with ⟨h20, hF⟩ | ⟨h20, hF⟩
 refine yT h20 ⟨L62, [B4, B6], H⟩ ?_
 refine Ag ?_
 obtain ⟨r21, c22, hF⟩ := Ab hF
 let E18 : EN := (51, .agg (Ak r21))
 refine Aj ⟨[E7], [(6, (Ak r21))], H⟩ ?_ ?_
 refine yr 2 ⟨L62 ++ [(49, .agg (Al p0)), E16], [B10, B6], H⟩ ?_
 refine Ai ⟨L62 ++ [E17, E16, E18], [B10, B6], H⟩ (yc (some 51) true true (⟨L62 ++ [E17, E16], [B10, B6], H⟩ : St) (Gv H c22)) ?_
 refine yr 1 ⟨L62 ++ [E17, E16, E18], [B10, (6, (Ak r21))], H⟩ ?_
 exact ye
 refine Au ?_
 obtain e0 := Am hF
 subst e0
 exact yp (.agg (Ak r21))
 refine yF h20 ⟨L53, [B4, B5, B6], H⟩ ?_
 refine ysg ⟨L53 ++ [(52, vb (p1.Op_ == 30))], [B4, B5, B6], H⟩ ?_
 refine As (α := (T_ref04_Cpu)) (fun x => (⟨L52, [(3, (Al x)), B6], H⟩ : St)) (fun x => Jo p0 x = some ra) ?_ ?_
 rintro j23 hF
 replace hF : Jo p0 j23 = some ra := hF
 unfold Jo at hF
 exact ⟨j23, hF, (by kernel_rfl)⟩
 rcases Ae hF with ⟨h24, hF⟩ | ⟨h24, hF⟩
 refine yT h24 ⟨L44, [B4, B5, B6], H⟩ ?_
 obtain ⟨v25, h26, hF⟩ := Ab hF
 let E24 : EN := (57, .one (.own 1) (.sl 2 (List.map Ad v25)))
 let L61 : List EN := L47 ++ [E24] ++ L50
 obtain ⟨v27, h28, hF⟩ := Ab hF
 let B19 : EB := (3, (arM .u32 16 p0.R_ ++ [(.top, .int .u32 p0.PC_), (.top, .int .u32 p0.EPC_), (.top, .int .u32 p0.Cause_), (.top, .int .i64 p0.State_), (.top, .int .i64 p0.Why_), (.top, .int .i64 p0.Steps_), (.top, .int .i64 p0.Taken_), ((.own 1), .sl 2 (List.map Ad v27)), (.top, .int .u32 p0.Entry_), (.top, .int .u32 p0.Vector_), (.top, .int .u32 p0.Guard_), (.top, .int .u32 p0.Limit_), ((.own 0), .sl 1 (List.map (eI .i32) p0.Input_))]))
 let L54 : List EN := L48 ++ [(64, .one (.own 1) (.sl 2 (List.map Ad v27)))]
 let L60 : List EN := L54 ++ [(65, vl 3 23)]
 let K74 : Sch := .last 2 (.last 3 (.last 10 (.take 11 (.last 12 .done))))
 let K75 : Sch := .last 0 (.last 3 (.last 10 (.take 11 (.last 12 .done))))
 let K73 : Sch := .alt 3 (.last 9 (.last 10 (.take 11 (.last 12 .done)))) (.last 9 (.last 3 (.last 10 (.take 11 (.last 12 .done)))))
 refine Bs (.take 1 (.take 4 (.take 5 (.take 6 (.take 7 (.take 8 (.alt 0 (.alt 2 K73 (.last 9 K74)) (.alt 2 (.alt 0 K73 (.last 9 K75)) (.last 9 (.alt 0 K74 (.last 2 K75))))))))))) (by kernel_rfl) (⟨L52, [B19, B6], H⟩ : St) ?_ ?_
 refine ydk 6 ⟨L63 ++ L45, [B4, B5, B6], H⟩ ?_
 refine kC (⟨L59, [B19, B5, B6], H⟩ : St) ?_ ?_
 refine P4 ⟨L57 ++ [E23] ++ L45, [B4, B5, B6], H⟩ (by kernel_rfl) ?_ ?_
 refine P4 ⟨L57 ++ L46 ++ L45, [B4, B5, B6], H⟩ (by kernel_rfl) ?_ ?_
 refine P4 ⟨L47 ++ [E24] ++ L45, [B4, B5, B6], H⟩ (Gu (X := X) (⟨L47 ++ L45, [B4, B5, B6], H⟩ : St) 16 h26 47 47 67 2 0 [(.top, .int .i64 0), (.top, .int .i32 0)] .bl Ad 9 (some 57) (by kernel_rfl) (by kernel_rfl) (by kernel_rfl) (by kernel_rfl) (by kernel_rfl) (by kernel_rfl) (by kernel_rfl) (by kernel_rfl) (If rfl fun _ => rfl) (fun _ => rfl) (by kernel_rfl)) ?_ ?_
 refine yql ⟨L61, [B4, B5, B6], H⟩ ?_
 refine Cb ⟨L54, [B4, B5, B6], H⟩ (Gu (X := X) (⟨L48, [B4, B5, B6], H⟩ : St) 16 h28 47 47 67 2 0 [(.top, .int .i64 0), (.top, .int .i32 0)] (.own 1) Ad 0 (some 64) (by kernel_rfl) (by kernel_rfl) (by kernel_rfl) (by kernel_rfl) (by kernel_rfl) (by kernel_rfl) (by kernel_rfl) (by kernel_rfl) (by kernel_rfl) (fun _ => rfl) (by kernel_rfl)) ?_
 refine yqt ⟨L60, [B4, B5, B6], H⟩ ?_
 refine yql ⟨L59, [B19, B5, B6], H⟩ ?_
 exact yqe
 refine yql ⟨L65, [B4, B5, B6], H⟩ ?_
 refine Cb ⟨L61, [B4, B5, B6], H⟩ (Gu (X := X) (⟨L47 ++ L50, [B4, B5, B6], H⟩ : St) 16 h26 47 47 67 2 0 [(.top, .int .i64 0), (.top, .int .i32 0)] .bl Ad 9 (some 57) (by kernel_rfl) (by kernel_rfl) (by kernel_rfl) (by kernel_rfl) (by kernel_rfl) (by kernel_rfl) (by kernel_rfl) (by kernel_rfl) (If rfl fun _ => rfl) (fun _ => rfl) (by kernel_rfl)) ?_
 refine Cb ⟨L54, [B4, B5, B6], H⟩ (Gu (X := X) (⟨L48, [B4, B5, B6], H⟩ : St) 16 h28 47 47 67 2 0 [(.top, .int .i64 0), (.top, .int .i32 0)] (.own 1) Ad 0 (some 64) (by kernel_rfl) (by kernel_rfl) (by kernel_rfl) (by kernel_rfl) (by kernel_rfl) (by kernel_rfl) (by kernel_rfl) (by kernel_rfl) (by kernel_rfl) (fun _ => rfl) (by kernel_rfl)) ?_
 refine yqt ⟨L60, [B4, B5, B6], H⟩ ?_
 refine yql ⟨L59, [B19, B5, B6], H⟩ ?_
 exact yqe
 refine yql ⟨L57 ++ [E23] ++ L50, [B4, B5, B6], H⟩ ?_
 refine yql ⟨L65, [B4, B5, B6], H⟩ ?_
 refine Cb ⟨L61, [B4, B5, B6], H⟩ (Gu (X := X) (⟨L47 ++ L50, [B4, B5, B6], H⟩ : St) 16 h26 47 47 67 2 0 [(.top, .int .i64 0), (.top, .int .i32 0)] .bl Ad 9 (some 57) (by kernel_rfl) (by kernel_rfl) (by kernel_rfl) (by kernel_rfl) (by kernel_rfl) (by kernel_rfl) (by kernel_rfl) (by kernel_rfl) (If rfl fun _ => rfl) (fun _ => rfl) (by kernel_rfl)) ?_
 refine Cb ⟨L54, [B4, B5, B6], H⟩ (Gu (X := X) (⟨L48, [B4, B5, B6], H⟩ : St) 16 h28 47 47 67 2 0 [(.top, .int .i64 0), (.top, .int .i32 0)] (.own 1) Ad 0 (some 64) (by kernel_rfl) (by kernel_rfl) (by kernel_rfl) (by kernel_rfl) (by kernel_rfl) (by kernel_rfl) (by kernel_rfl) (by kernel_rfl) (by kernel_rfl) (fun _ => rfl) (by kernel_rfl)) ?_
 refine yqt ⟨L60, [B4, B5, B6], H⟩ ?_
 refine yql ⟨L59, [B19, B5, B6], H⟩ ?_
 exact yqe
 refine P4 ⟨L44 ++ L46 ++ L45, [B4, B5, B6], H⟩ (by kernel_rfl) ?_ ?_
 refine P4 ⟨L57 ++ L46 ++ L45, [B4, B5, B6], H⟩ (by kernel_rfl) ?_ ?_
 refine P4 ⟨L47 ++ [E24] ++ L45, [B4, B5, B6], H⟩ (Gu (X := X) (⟨L47 ++ L45, [B4, B5, B6], H⟩ : St) 16 h26 47 47 67 2 0 [(.top, .int .i64 0), (.top, .int .i32 0)] .bl Ad 9 (some 57) (by kernel_rfl) (by kernel_rfl) (by kernel_rfl) (by kernel_rfl) (by kernel_rfl) (by kernel_rfl) (by kernel_rfl) (by kernel_rfl) (If rfl fun _ => rfl) (fun _ => rfl) (by kernel_rfl)) ?_ ?_
 refine yql ⟨L61, [B4, B5, B6], H⟩ ?_
 refine Cb ⟨L54, [B4, B5, B6], H⟩ (Gu (X := X) (⟨L48, [B4, B5, B6], H⟩ : St) 16 h28 47 47 67 2 0 [(.top, .int .i64 0), (.top, .int .i32 0)] (.own 1) Ad 0 (some 64) (by kernel_rfl) (by kernel_rfl) (by kernel_rfl) (by kernel_rfl) (by kernel_rfl) (by kernel_rfl) (by kernel_rfl) (by kernel_rfl) (by kernel_rfl) (fun _ => rfl) (by kernel_rfl)) ?_
 refine yqt ⟨L60, [B4, B5, B6], H⟩ ?_
 refine yql ⟨L59, [B19, B5, B6], H⟩ ?_
 exact yqe
 refine yql ⟨L65, [B4, B5, B6], H⟩ ?_
 refine Cb ⟨L61, [B4, B5, B6], H⟩ (Gu (X := X) (⟨L47 ++ L50, [B4, B5, B6], H⟩ : St) 16 h26 47 47 67 2 0 [(.top, .int .i64 0), (.top, .int .i32 0)] .bl Ad 9 (some 57) (by kernel_rfl) (by kernel_rfl) (by kernel_rfl) (by kernel_rfl) (by kernel_rfl) (by kernel_rfl) (by kernel_rfl) (by kernel_rfl) (If rfl fun _ => rfl) (fun _ => rfl) (by kernel_rfl)) ?_
 refine Cb ⟨L54, [B4, B5, B6], H⟩ (Gu (X := X) (⟨L48, [B4, B5, B6], H⟩ : St) 16 h28 47 47 67 2 0 [(.top, .int .i64 0), (.top, .int .i32 0)] (.own 1) Ad 0 (some 64) (by kernel_rfl) (by kernel_rfl) (by kernel_rfl) (by kernel_rfl) (by kernel_rfl) (by kernel_rfl) (by kernel_rfl) (by kernel_rfl) (by kernel_rfl) (fun _ => rfl) (by kernel_rfl)) ?_
 refine yqt ⟨L60, [B4, B5, B6], H⟩ ?_
 refine yql ⟨L59, [B19, B5, B6], H⟩ ?_
 exact yqe
 refine yql ⟨L44 ++ L46 ++ L50, [B4, B5, B6], H⟩ ?_
 refine yql ⟨L65, [B4, B5, B6], H⟩ ?_
 refine Cb ⟨L61, [B4, B5, B6], H⟩ (Gu (X := X) (⟨L47 ++ L50, [B4, B5, B6], H⟩ : St) 16 h26 47 47 67 2 0 [(.top, .int .i64 0), (.top, .int .i32 0)] .bl Ad 9 (some 57) (by kernel_rfl) (by kernel_rfl) (by kernel_rfl) (by kernel_rfl) (by kernel_rfl) (by kernel_rfl) (by kernel_rfl) (by kernel_rfl) (If rfl fun _ => rfl) (fun _ => rfl) (by kernel_rfl)) ?_
 refine Cb ⟨L54, [B4, B5, B6], H⟩ (Gu (X := X) (⟨L48, [B4, B5, B6], H⟩ : St) 16 h28 47 47 67 2 0 [(.top, .int .i64 0), (.top, .int .i32 0)] (.own 1) Ad 0 (some 64) (by kernel_rfl) (by kernel_rfl) (by kernel_rfl) (by kernel_rfl) (by kernel_rfl) (by kernel_rfl) (by kernel_rfl) (by kernel_rfl) (by kernel_rfl) (fun _ => rfl) (by kernel_rfl)) ?_
 refine yqt ⟨L60, [B4, B5, B6], H⟩ ?_
 refine yql ⟨L59, [B19, B5, B6], H⟩ ?_
 exact yqe
 refine yql ⟨L63 ++ L50, [B4, B5, B6], H⟩ ?_
 refine P4 ⟨L57 ++ [E23] ++ L50, [B4, B5, B6], H⟩ (by kernel_rfl) ?_ ?_
 refine yql ⟨L65, [B4, B5, B6], H⟩ ?_
 refine Cb ⟨L61, [B4, B5, B6], H⟩ (Gu (X := X) (⟨L47 ++ L50, [B4, B5, B6], H⟩ : St) 16 h26 47 47 67 2 0 [(.top, .int .i64 0), (.top, .int .i32 0)] .bl Ad 9 (some 57) (by kernel_rfl) (by kernel_rfl) (by kernel_rfl) (by kernel_rfl) (by kernel_rfl) (by kernel_rfl) (by kernel_rfl) (by kernel_rfl) (If rfl fun _ => rfl) (fun _ => rfl) (by kernel_rfl)) ?_
 refine Cb ⟨L54, [B4, B5, B6], H⟩ (Gu (X := X) (⟨L48, [B4, B5, B6], H⟩ : St) 16 h28 47 47 67 2 0 [(.top, .int .i64 0), (.top, .int .i32 0)] (.own 1) Ad 0 (some 64) (by kernel_rfl) (by kernel_rfl) (by kernel_rfl) (by kernel_rfl) (by kernel_rfl) (by kernel_rfl) (by kernel_rfl) (by kernel_rfl) (by kernel_rfl) (fun _ => rfl) (by kernel_rfl)) ?_
 refine yqt ⟨L60, [B4, B5, B6], H⟩ ?_
 refine yql ⟨L59, [B19, B5, B6], H⟩ ?_
 exact yqe
 refine yql ⟨L44 ++ L46 ++ L50, [B4, B5, B6], H⟩ ?_
 refine yql ⟨L65, [B4, B5, B6], H⟩ ?_
 refine Cb ⟨L61, [B4, B5, B6], H⟩ (Gu (X := X) (⟨L47 ++ L50, [B4, B5, B6], H⟩ : St) 16 h26 47 47 67 2 0 [(.top, .int .i64 0), (.top, .int .i32 0)] .bl Ad 9 (some 57) (by kernel_rfl) (by kernel_rfl) (by kernel_rfl) (by kernel_rfl) (by kernel_rfl) (by kernel_rfl) (by kernel_rfl) (by kernel_rfl) (If rfl fun _ => rfl) (fun _ => rfl) (by kernel_rfl)) ?_
 refine Cb ⟨L54, [B4, B5, B6], H⟩ (Gu (X := X) (⟨L48, [B4, B5, B6], H⟩ : St) 16 h28 47 47 67 2 0 [(.top, .int .i64 0), (.top, .int .i32 0)] (.own 1) Ad 0 (some 64) (by kernel_rfl) (by kernel_rfl) (by kernel_rfl) (by kernel_rfl) (by kernel_rfl) (by kernel_rfl) (by kernel_rfl) (by kernel_rfl) (by kernel_rfl) (fun _ => rfl) (by kernel_rfl)) ?_
 refine yqt ⟨L60, [B4, B5, B6], H⟩ ?_
 refine yql ⟨L59, [B19, B5, B6], H⟩ ?_
 exact yqe
 kernel_rfl
 exact ⟨(T_ref04_Cpu.mk p0.R_ p0.PC_ p0.EPC_ p0.Cause_ p0.State_ p0.Why_ p0.Steps_ p0.Taken_ v27 p0.Entry_ p0.Vector_ p0.Guard_ p0.Limit_ p0.Input_), hF, (by kernel_rfl)⟩
 refine yF h24 ⟨L53, [B4, B5, B6], H⟩ ?_
 refine ysg ⟨L53 ++ [(66, vb (p1.Op_ == 31))], [B4, B5, B6], H⟩ ?_
 refine As (α := (T_ref04_Cpu)) (fun x => (⟨L52, [(3, (Al x)), B6], H⟩ : St)) (fun x => Jp p0 x = some ra) ?_ ?_
 rintro j29 hF
 replace hF : Jp p0 j29 = some ra := hF
 unfold Jp at hF
 exact ⟨j29, hF, (by kernel_rfl)⟩
 rcases Ae hF with ⟨h30, hF⟩ | ⟨h30, hF⟩
 refine yT h30 ⟨L43, [B4, B5, B6], H⟩ ?_
 refine Ag ?_
 refine yso ⟨L43 ++ [E25], [B4, B5, B6], H⟩ ?_ ?_
 refine yr 4 ⟨L69, [B4, B5, B6], H⟩ ?_
 refine Ai ⟨L69 ++ [E26], [B4, B5, B6], H⟩ (yl (⟨L69, [B4, B5, B6], H⟩ : St) p0.Input_ (eI .i32) (some 72)) ?_
 refine yr 1 ⟨L69 ++ [E26, E25], [B4, B5, B6], H⟩ ?_
 exact ye
 rcases Ae hF with ⟨h31, hF⟩ | ⟨h31, hF⟩
 refine yT h31 ⟨L49, [B4, B6], H⟩ ?_
 refine Ag ?_
 obtain ⟨r32, c33, hF⟩ := Ab hF
 let E28 : EN := (75, .agg (Ak r32))
 refine Aj ⟨[E7], [(6, (Ak r32))], H⟩ ?_ ?_
 refine yr 1 ⟨L49 ++ [(74, .agg (Al p0))], [B10, B6], H⟩ ?_
 refine Ai ⟨L49 ++ [E27, E28], [B10, B6], H⟩ (yc (some 75) true true (⟨L49 ++ [E27], [B10, B6], H⟩ : St) (Gv H c33)) ?_
 refine yr 1 ⟨L49 ++ [E27, E28], [B10, (6, (Ak r32))], H⟩ ?_
 exact ye
 refine Au ?_
 obtain e0 := Am hF
 subst e0
 exact yp (.agg (Ak r32))
 refine yF h31 ⟨L43, [B4, B5, B6], H⟩ ?_
 refine Ao ?_
 refine Ag ?_
 obtain ⟨x34, h35, hF⟩ := Ab hF
 let E33 : EN := (83, .one .top (.int .i32 x34))
 let L55 : List EN := L51 ++ [E32, E30, E34, (82, .one .top (.rd (.own 0) (.own 0) [.int .i32 x34] 0))]
 let L58 : List EN := L55 ++ [E33, (84, vu (IntKind.wrap .u32 x34)), E31]
 let L64 : List EN := L58 ++ [(86, vl 3 (0 + Int.toNat p1.A_))]
 obtain ⟨v36, h37, hF⟩ := Ab hF
 obtain ⟨v38, h39, hF⟩ := Ab hF
 let B29 : EB := (3, (arM .u32 16 v38 ++ [(.top, .int .u32 p0.PC_), (.top, .int .u32 p0.EPC_), (.top, .int .u32 p0.Cause_), (.top, .int .i64 p0.State_), (.top, .int .i64 p0.Why_), (.top, .int .i64 p0.Steps_), (.top, .int .i64 p0.Taken_), ((.own 1), .sl 2 (List.map Ad p0.Out_)), (.top, .int .u32 p0.Entry_), (.top, .int .u32 p0.Vector_), (.top, .int .u32 p0.Guard_), (.top, .int .u32 p0.Limit_), ((.own 0), .sl 1 (List.map (eI .i32) p0.Input_))]))
 let K76 : Sch := .take 6 (.take 7 (.take 8 (.take 10 (.last 11 .done))))
 refine Bs (.take 0 (.take 1 (.take 2 (.take 4 (.take 9 (.alt 3 (.last 5 K76) (.last 5 (.last 3 K76)))))))) (by kernel_rfl) (⟨L52, [B29, B6], H⟩ : St) ?_ ?_
 refine ydk 5 ⟨L51 ++ [E30, E31], [B4, B5, B6], H⟩ ?_
 refine kC (⟨L64, [B29, B5, B6], H⟩ : St) ?_ ?_
 refine P4 ⟨L51 ++ [E32, E30, E31], [B4, B5, B6], H⟩ (by kernel_rfl) ?_ ?_
 refine yql ⟨L68, [B4, B5, B6], H⟩ ?_
 refine Tt ⟨L55 ++ [E31], [B4, B5, B6], H⟩ (P5 (X := X) (⟨L68, [B4, B5, B6], H⟩ : St) 48 21 1 h35 (eI .i32) (.own 0) (some 82) (by kernel_rfl) (by kernel_rfl) (by kernel_rfl) (by kernel_rfl)) ?_
 refine yqt ⟨L55 ++ [E33, E31], [B4, B5, B6], H⟩ ?_
 refine yqt ⟨L58, [B4, B5, B6], H⟩ ?_
 refine Tt ⟨L64, [B4, B5, B6], H⟩ (Jv (X := X) (⟨L58, [B4, B5, B6], H⟩ : St) 46 35 16 h37 3 0 (some 86) (by kernel_rfl) (by kernel_rfl) (by kernel_rfl) (by kernel_rfl)) ?_
 refine Cb ⟨L64, [B29, B5, B6], H⟩ (Ot (X := X) (⟨L64, [B4, B5, B6], H⟩ : St) 35 16 h39 3 0 (Al p0) (fun q => .int .u32 q) ⟨true, [4, 6]⟩ (by kernel_rfl) (by kernel_rfl) (by kernel_rfl) (by kernel_rfl) (by kernel_rfl) (fun _ => rfl) (by kernel_rfl)) ?_
 exact yqe
 refine yql ⟨L51 ++ [E30, E34, E31], [B4, B5, B6], H⟩ ?_
 refine yql ⟨L68, [B4, B5, B6], H⟩ ?_
 refine Tt ⟨L55 ++ [E31], [B4, B5, B6], H⟩ (P5 (X := X) (⟨L68, [B4, B5, B6], H⟩ : St) 48 21 1 h35 (eI .i32) (.own 0) (some 82) (by kernel_rfl) (by kernel_rfl) (by kernel_rfl) (by kernel_rfl)) ?_
 refine yqt ⟨L55 ++ [E33, E31], [B4, B5, B6], H⟩ ?_
 refine yqt ⟨L58, [B4, B5, B6], H⟩ ?_
 refine Tt ⟨L64, [B4, B5, B6], H⟩ (Jv (X := X) (⟨L58, [B4, B5, B6], H⟩ : St) 46 35 16 h37 3 0 (some 86) (by kernel_rfl) (by kernel_rfl) (by kernel_rfl) (by kernel_rfl)) ?_
 refine Cb ⟨L64, [B29, B5, B6], H⟩ (Ot (X := X) (⟨L64, [B4, B5, B6], H⟩ : St) 35 16 h39 3 0 (Al p0) (fun q => .int .u32 q) ⟨true, [4, 6]⟩ (by kernel_rfl) (by kernel_rfl) (by kernel_rfl) (by kernel_rfl) (by kernel_rfl) (fun _ => rfl) (by kernel_rfl)) ?_
 exact yqe
 kernel_rfl
 refine yg ⟨L52, [(3, (arM .u32 16 v38 ++ [(.top, .int .u32 p0.PC_), (.top, .int .u32 p0.EPC_), (.top, .int .u32 p0.Cause_), (.top, .int .i64 p0.State_), (.top, .int .i64 p0.Why_), (.top, .int .i64 p0.Steps_), (.top, .int .i64 (IntKind.wrap .i64 (p0.Taken_ + 1))), ((.own 1), .sl 2 (List.map Ad p0.Out_)), (.top, .int .u32 p0.Entry_), (.top, .int .u32 p0.Vector_), (.top, .int .u32 p0.Guard_), (.top, .int .u32 p0.Limit_), ((.own 0), .sl 1 (List.map (eI .i32) p0.Input_))])), B6], H⟩ ?_
 exact ⟨(T_ref04_Cpu.mk v38 p0.PC_ p0.EPC_ p0.Cause_ p0.State_ p0.Why_ p0.Steps_ (IntKind.wrap .i64 (p0.Taken_ + 1)) p0.Out_ p0.Entry_ p0.Vector_ p0.Guard_ p0.Limit_ p0.Input_), hF, (by kernel_rfl)⟩
 refine yF h30 ⟨L53, [B4, B5, B6], H⟩ ?_
 refine ysg ⟨L53 ++ [(91, vb (p1.Op_ == 32))], [B4, B5, B6], H⟩ ?_
 refine As (α := (T_ref04_Cpu)) (fun x => (⟨L52, [(3, (Al x)), B6], H⟩ : St)) (fun x => Jq p0 x = some ra) ?_ ?_
 rintro j40 hF
 replace hF : Jq p0 j40 = some ra := hF
 unfold Jq at hF
 exact ⟨j40, hF, (by kernel_rfl)⟩
 rcases Ae hF with ⟨h41, hF⟩ | ⟨h41, hF⟩
 refine yT h41 S72 ?_
 refine ysg ⟨L52 ++ [(98, vb (decide ((IntKind.wrap .i32 p2) < (IntKind.wrap .i32 p0.Limit_))))], [B4, B6], H⟩ ?_
 rcases Ae hF with ⟨h42, hF⟩ | ⟨h42, hF⟩
 refine yT h42 ⟨L49, [B4, B6], H⟩ ?_
 refine Ag ?_
 obtain ⟨r43, c44, hF⟩ := Ab hF
 let E36 : EN := (100, .agg (Ak r43))
 refine Aj ⟨[E7], [(6, (Ak r43))], H⟩ ?_ ?_
 refine yr 1 ⟨L49 ++ [(99, .agg (Al p0))], [B10, B6], H⟩ ?_
 refine Ai ⟨L49 ++ [E35, E36], [B10, B6], H⟩ (yc (some 100) true true (⟨L49 ++ [E35], [B10, B6], H⟩ : St) (Gv H c44)) ?_
 refine yr 1 ⟨L49 ++ [E35, E36], [B10, (6, (Ak r43))], H⟩ ?_
 exact ye
 refine Au ?_
 obtain e0 := Am hF
 subst e0
 exact yp (.agg (Ak r43))
 refine yF h42 ⟨L52, [B4, B6], H⟩ ?_
 refine Ao ?_
 exact ⟨p0, hF, (by kernel_rfl)⟩
 refine yF h41 ⟨L43 ++ [(12, vi p1.Op_)], [B4, B5, B6], H⟩ ?_
 refine ysg ⟨L43 ++ [(101, vb (p1.Op_ == 33))], [B4, B5, B6], H⟩ ?_
 refine As (α := (T_ref04_Cpu)) (fun x => (⟨L52, [(3, (Al x)), B6], H⟩ : St)) (fun x => Jr p0 x = some ra) ?_ ?_
 rintro j45 hF
 replace hF : Jr p0 j45 = some ra := hF
 unfold Jr at hF
 exact ⟨j45, hF, (by kernel_rfl)⟩
 rcases Ae hF with ⟨h46, hF⟩ | ⟨h46, hF⟩
 refine yT h46 ⟨L43, [B4, B5, B6], H⟩ ?_
 refine Ag ?_
 refine ysg ⟨L43 ++ [(105, vb (decide (p1.Imm_ > 1)))], [B4, B5, B6], H⟩ ?_
 rcases Ae hF with ⟨h47, hF⟩ | ⟨h47, hF⟩
 refine yT h47 ⟨L49, [B4, B6], H⟩ ?_
 refine Ag ?_
 obtain ⟨r48, c49, hF⟩ := Ab hF
 let E38 : EN := (107, .agg (Ak r48))
 refine Aj ⟨[E7], [(6, (Ak r48))], H⟩ ?_ ?_
 refine yr 1 ⟨L49 ++ [(106, .agg (Al p0))], [B10, B6], H⟩ ?_
 refine Ai ⟨L49 ++ [E37, E38], [B10, B6], H⟩ (yc (some 107) true true (⟨L49 ++ [E37], [B10, B6], H⟩ : St) (Hy H c49)) ?_
 refine yr 1 ⟨L49 ++ [E37, E38], [B10, (6, (Ak r48))], H⟩ ?_
 exact ye
 refine Au ?_
 obtain e0 := Am hF
 subst e0
 exact yp (.agg (Ak r48))
 refine yF h47 ⟨L43, [B4, B5, B6], H⟩ ?_
 refine Ao ?_
 refine Ag ?_
 obtain ⟨v50, h51, hF⟩ := Ab hF
 obtain ⟨v52, h53, hF⟩ := Ab hF
 let B39 : EB := (3, (arM .u32 16 v52 ++ [(.top, .int .u32 p0.PC_), (.top, .int .u32 p0.EPC_), (.top, .int .u32 p0.Cause_), (.top, .int .i64 p0.State_), (.top, .int .i64 p0.Why_), (.top, .int .i64 p0.Steps_), (.top, .int .i64 p0.Taken_), ((.own 1), .sl 2 (List.map Ad p0.Out_)), (.top, .int .u32 p0.Entry_), (.top, .int .u32 p0.Vector_), (.top, .int .u32 p0.Guard_), (.top, .int .u32 p0.Limit_), ((.own 0), .sl 1 (List.map (eI .i32) p0.Input_))]))
 refine Aj ⟨L43, [B39, B5, B6], H⟩ ?_ ?_
 refine yr 5 ⟨L66, [B4, B5, B6], H⟩ ?_
 refine Ai ⟨L66 ++ [E40], [B4, B5, B6], H⟩ (Jv (X := X) (⟨L66, [B4, B5, B6], H⟩ : St) 46 35 16 h51 3 0 (some 113) (by kernel_rfl) (by kernel_rfl) (by kernel_rfl) (by kernel_rfl)) ?_
 refine Ai ⟨L66 ++ [E40], [B39, B5, B6], H⟩ (Ot (X := X) (⟨L66 ++ [E40], [B4, B5, B6], H⟩ : St) 35 16 h53 3 0 (Al p0) (fun q => .int .u32 q) ⟨true, []⟩ (by kernel_rfl) (by kernel_rfl) (by kernel_rfl) (by kernel_rfl) (by kernel_rfl) (fun _ => rfl) (by kernel_rfl)) ?_
 exact ye
 refine ysg ⟨L43 ++ [(116, vb (p1.Imm_ == 1))], [B39, B5, B6], H⟩ ?_
 refine As (α := (T_ref04_Cpu)) (fun x => (⟨L52, [(3, (Al x)), B6], H⟩ : St)) (fun x => Js p0 x = some ra) ?_ ?_
 rintro j54 hF
 replace hF : Js p0 j54 = some ra := hF
 unfold Js at hF
 exact ⟨j54, hF, (by kernel_rfl)⟩
 rcases Ae hF with ⟨h55, hF⟩ | ⟨h55, hF⟩
 refine yT h55 ⟨L43, [B39, B5, B6], H⟩ ?_
 obtain ⟨v56, h57, hF⟩ := Ab hF
 obtain ⟨v58, h59, hF⟩ := Ab hF
 let B41 : EB := (3, (arM .u32 16 v58 ++ [(.top, .int .u32 p0.PC_), (.top, .int .u32 p0.EPC_), (.top, .int .u32 p0.Cause_), (.top, .int .i64 p0.State_), (.top, .int .i64 p0.Why_), (.top, .int .i64 p0.Steps_), (.top, .int .i64 p0.Taken_), ((.own 1), .sl 2 (List.map Ad p0.Out_)), (.top, .int .u32 p0.Entry_), (.top, .int .u32 p0.Vector_), (.top, .int .u32 p0.Guard_), (.top, .int .u32 p0.Limit_), ((.own 0), .sl 1 (List.map (eI .i32) p0.Input_))]))
 refine Aj ⟨L52, [B41, B6], H⟩ ?_ ?_
 refine yr 5 ⟨L67, [B39, B5, B6], H⟩ ?_
 refine Ai ⟨L67 ++ [E42], [B39, B5, B6], H⟩ (Jv (X := X) (⟨L67, [B39, B5, B6], H⟩ : St) 46 35 16 h57 3 0 (some 122) (by kernel_rfl) (by kernel_rfl) (by kernel_rfl) (by kernel_rfl)) ?_
 refine Ai ⟨L67 ++ [E42], [B41, B5, B6], H⟩ (Ot (X := X) (⟨L67 ++ [E42], [B39, B5, B6], H⟩ : St) 35 16 h59 3 0 (arM .u32 16 v52 ++ [(.top, .int .u32 p0.PC_), (.top, .int .u32 p0.EPC_), (.top, .int .u32 p0.Cause_), (.top, .int .i64 p0.State_), (.top, .int .i64 p0.Why_), (.top, .int .i64 p0.Steps_), (.top, .int .i64 p0.Taken_), ((.own 1), .sl 2 (List.map Ad p0.Out_)), (.top, .int .u32 p0.Entry_), (.top, .int .u32 p0.Vector_), (.top, .int .u32 p0.Guard_), (.top, .int .u32 p0.Limit_), ((.own 0), .sl 1 (List.map (eI .i32) p0.Input_))]) (fun q => .int .u32 q) ⟨true, []⟩ (by kernel_rfl) (by kernel_rfl) (by kernel_rfl) (by kernel_rfl) (by kernel_rfl) (fun _ => rfl) (by kernel_rfl)) ?_
 exact ye
 exact ⟨(T_ref04_Cpu.mk v58 p0.PC_ p0.EPC_ p0.Cause_ p0.State_ p0.Why_ p0.Steps_ p0.Taken_ p0.Out_ p0.Entry_ p0.Vector_ p0.Guard_ p0.Limit_ p0.Input_), hF, (by kernel_rfl)⟩
 refine yF h55 ⟨L52, [B39, B6], H⟩ ?_
 refine Ao ?_
 exact ⟨(T_ref04_Cpu.mk v52 p0.PC_ p0.EPC_ p0.Cause_ p0.State_ p0.Why_ p0.Steps_ p0.Taken_ p0.Out_ p0.Entry_ p0.Vector_ p0.Guard_ p0.Limit_ p0.Input_), hF, (by kernel_rfl)⟩
 refine yF h46 ⟨L52, [B4, B6], H⟩ ?_
 refine Ao ?_
 exact ⟨p0, hF, (by kernel_rfl)⟩
noncomputable def Nn (j20 : Int) (j21 : T_ref04_Cpu) (j22 : T_ref03_Mem) : Option (T_ref04_Cpu × T_ref03_Mem) :=
  some ((T_ref04_Cpu.mk j21.R_ j20 j21.EPC_ j21.Cause_ j21.State_ j21.Why_ j21.Steps_ j21.Taken_ j21.Out_ j21.Entry_ j21.Vector_ j21.Guard_ j21.Limit_ j21.Input_), j22)
noncomputable def Np (j28 : Int) (j29 : T_ref04_Cpu) (j30 : T_ref03_Mem) : Option (T_ref04_Cpu × T_ref03_Mem) :=
  Nn j28 j29 j30
noncomputable def Nq (j36 : Int) (j37 : T_ref04_Cpu) (j38 : T_ref03_Mem) : Option (T_ref04_Cpu × T_ref03_Mem) :=
  Np j36 j37 j38
noncomputable def Nr (j44 : Int) (j45 : T_ref04_Cpu) (j46 : T_ref03_Mem) : Option (T_ref04_Cpu × T_ref03_Mem) :=
  Nq j44 j45 j46
noncomputable def Ns (j52 : Int) (j53 : T_ref04_Cpu) (j54 : T_ref03_Mem) : Option (T_ref04_Cpu × T_ref03_Mem) :=
  Nr j52 j53 j54
noncomputable def Nt (j60 : Int) (j61 : T_ref04_Cpu) (j62 : T_ref03_Mem) : Option (T_ref04_Cpu × T_ref03_Mem) :=
  Ns j60 j61 j62
noncomputable def Nu (j74 : Int) (j75 : T_ref04_Cpu) (j76 : T_ref03_Mem) : Option (T_ref04_Cpu × T_ref03_Mem) :=
  Nt j74 j75 j76
noncomputable def Nv (p1 : T_ref03_Mem) (j84 : Int) (j85 : T_ref04_Cpu) : Option (T_ref04_Cpu × T_ref03_Mem) :=
  Nu j84 j85 p1
noncomputable def Nw (p1 : T_ref03_Mem) (p0 : T_ref04_Cpu) (j87 : Int) : Option (T_ref04_Cpu × T_ref03_Mem) :=
  Nv p1 j87 p0
noncomputable def Mc (p1 : T_ref03_Mem) (j89 : Int) (j90 : T_ref04_Cpu) : Option (T_ref04_Cpu × T_ref03_Mem) :=
  Nv p1 j89 j90
noncomputable def Me (p1 : T_ref03_Mem) (p0 : T_ref04_Cpu) (j92 : Int) : Option (T_ref04_Cpu × T_ref03_Mem) :=
  Mc p1 j92 p0
noncomputable def Mf (p1 : T_ref03_Mem) (p0 : T_ref04_Cpu) (p2 : T_ref02_Instr) (j94 : T_ref04_Cpu) : Option (T_ref04_Cpu × T_ref03_Mem) :=
  Mc p1 (IntKind.wrap .u32 ((IntKind.wrap .u32 (p0.PC_ + 4)) + (IntKind.wrap .u32 (4 * (IntKind.wrap .u32 p2.Imm_))))) j94
noncomputable def Ck  (p0 : T_ref04_Cpu) (p1 : T_ref03_Mem) (p2 : T_ref02_Instr) : Option (T_ref04_Cpu × T_ref03_Mem) :=
  Af (ga p0.R_ p2.A_) fun v1 =>
  Af (ga p0.R_ p2.B_) fun v3 =>
  if ((decide (p2.Op_ ≥ 6)) && (decide (p2.Op_ ≤ 17))) = true then (Af (ga p0.R_ p2.C_) fun v7 =>
  Cc (Cg p2.Op_ v3 v7) fun r9 r10 =>
  if (!r10) = true then (Af (Fx p0 3) fun r13 =>
  some (r13, p1))
  else (Af (ga p0.R_ p2.A_) fun v15 =>
  Af (sa p0.R_ p2.A_ r9) fun v17 =>
  some ((T_ref04_Cpu.mk v17 (IntKind.wrap .u32 (p0.PC_ + 4)) p0.EPC_ p0.Cause_ p0.State_ p0.Why_ p0.Steps_ p0.Taken_ p0.Out_ p0.Entry_ p0.Vector_ p0.Guard_ p0.Limit_ p0.Input_), p1)))
  else (if (p2.Op_ == 1) = true then (some ((T_ref04_Cpu.mk p0.R_ p0.PC_ p0.EPC_ p0.Cause_ 1 p0.Why_ p0.Steps_ p0.Taken_ p0.Out_ p0.Entry_ p0.Vector_ p0.Guard_ p0.Limit_ p0.Input_), p1))
  else (if (p2.Op_ == 2) = true then (Af (ga p0.R_ p2.A_) fun v24 =>
  Af (sa p0.R_ p2.A_ (IntKind.wrap .u32 p2.Imm_)) fun v26 =>
  Nn (IntKind.wrap .u32 (p0.PC_ + 4)) (T_ref04_Cpu.mk v26 p0.PC_ p0.EPC_ p0.Cause_ p0.State_ p0.Why_ p0.Steps_ p0.Taken_ p0.Out_ p0.Entry_ p0.Vector_ p0.Guard_ p0.Limit_ p0.Input_) p1)
  else (if (p2.Op_ == 3) = true then (Af (ga p0.R_ p2.A_) fun v32 =>
  Af (sa p0.R_ p2.A_ (IntKind.wrap .u32 ((IntKind.wrap .u32 p2.Imm_) * 65536))) fun v34 =>
  Np (IntKind.wrap .u32 (p0.PC_ + 4)) (T_ref04_Cpu.mk v34 p0.PC_ p0.EPC_ p0.Cause_ p0.State_ p0.Why_ p0.Steps_ p0.Taken_ p0.Out_ p0.Entry_ p0.Vector_ p0.Guard_ p0.Limit_ p0.Input_) p1)
  else (if (p2.Op_ == 4) = true then (Af (ga p0.R_ p2.A_) fun v40 =>
  Af (sa p0.R_ p2.A_ (A9 .or .u32 v3 (IntKind.wrap .u32 p2.Imm_))) fun v42 =>
  Nq (IntKind.wrap .u32 (p0.PC_ + 4)) (T_ref04_Cpu.mk v42 p0.PC_ p0.EPC_ p0.Cause_ p0.State_ p0.Why_ p0.Steps_ p0.Taken_ p0.Out_ p0.Entry_ p0.Vector_ p0.Guard_ p0.Limit_ p0.Input_) p1)
  else (if (p2.Op_ == 5) = true then (Af (ga p0.R_ p2.A_) fun v48 =>
  Af (sa p0.R_ p2.A_ (IntKind.wrap .u32 (v3 + (IntKind.wrap .u32 p2.Imm_)))) fun v50 =>
  Nr (IntKind.wrap .u32 (p0.PC_ + 4)) (T_ref04_Cpu.mk v50 p0.PC_ p0.EPC_ p0.Cause_ p0.State_ p0.Why_ p0.Steps_ p0.Taken_ p0.Out_ p0.Entry_ p0.Vector_ p0.Guard_ p0.Limit_ p0.Input_) p1)
  else (if (p2.Op_ == 34) = true then (Af (ga p0.R_ p2.A_) fun v56 =>
  Af (sa p0.R_ p2.A_ (A9 .xor .u32 v3 (IntKind.wrap .u32 p2.Imm_))) fun v58 =>
  Ns (IntKind.wrap .u32 (p0.PC_ + 4)) (T_ref04_Cpu.mk v58 p0.PC_ p0.EPC_ p0.Cause_ p0.State_ p0.Why_ p0.Steps_ p0.Taken_ p0.Out_ p0.Entry_ p0.Vector_ p0.Guard_ p0.Limit_ p0.Input_) p1)
  else (if (p2.Op_ == 18) = true then (Cc (Kf p1 (IntKind.wrap .u32 (v3 + (IntKind.wrap .u32 p2.Imm_)))) fun r64 r65 =>
  if (r65 != 0) = true then (Af (Gp p0 r65) fun r68 =>
  some (r68, p1))
  else (Af (ga p0.R_ p2.A_) fun v70 =>
  Af (sa p0.R_ p2.A_ r64) fun v72 =>
  Nt (IntKind.wrap .u32 (p0.PC_ + 4)) (T_ref04_Cpu.mk v72 p0.PC_ p0.EPC_ p0.Cause_ p0.State_ p0.Why_ p0.Steps_ p0.Taken_ p0.Out_ p0.Entry_ p0.Vector_ p0.Guard_ p0.Limit_ p0.Input_) p1))
  else (if (p2.Op_ == 19) = true then (Cc (Lp p1 (IntKind.wrap .u32 (v3 + (IntKind.wrap .u32 p2.Imm_))) v1) fun r78 r79 =>
  if (r79 != 0) = true then (Af (Gp p0 r79) fun r82 =>
  some (r82, p1))
  else (Nu (IntKind.wrap .u32 (p0.PC_ + 4)) p0 r78))
  else (if (p2.Op_ == 20) = true then (if (v1 == 0) = true then (Nw p1 p0 (IntKind.wrap .u32 ((IntKind.wrap .u32 (p0.PC_ + 4)) + (IntKind.wrap .u32 (4 * (IntKind.wrap .u32 p2.Imm_))))))
  else (Nw p1 p0 (IntKind.wrap .u32 (p0.PC_ + 4))))
  else (if (p2.Op_ == 21) = true then (if (v1 != 0) = true then (Me p1 p0 (IntKind.wrap .u32 ((IntKind.wrap .u32 (p0.PC_ + 4)) + (IntKind.wrap .u32 (4 * (IntKind.wrap .u32 p2.Imm_))))))
  else (Me p1 p0 (IntKind.wrap .u32 (p0.PC_ + 4))))
  else (if (p2.Op_ == 22) = true then (Mf p1 p0 p2 p0)
  else (if (p2.Op_ == 23) = true then (Mf p1 p0 p2 (T_ref04_Cpu.mk (Ij [(p0.R_.g 0), (p0.R_.g 1), (p0.R_.g 2), (p0.R_.g 3), (p0.R_.g 4), (p0.R_.g 5), (p0.R_.g 6), (p0.R_.g 7), (p0.R_.g 8), (p0.R_.g 9), (p0.R_.g 10), (p0.R_.g 11), (p0.R_.g 12), (p0.R_.g 13), (IntKind.wrap .u32 (p0.PC_ + 4)), (p0.R_.g 15)] : Arr 16 Int) p0.PC_ p0.EPC_ p0.Cause_ p0.State_ p0.Why_ p0.Steps_ p0.Taken_ p0.Out_ p0.Entry_ p0.Vector_ p0.Guard_ p0.Limit_ p0.Input_))
  else (Af (Ch p0 p2 v1) fun r97 =>
  some (r97, p1))))))))))))))
theorem eG (H : Ah) {p0 : T_ref04_Cpu} {p1 : T_ref03_Mem} {p2 : T_ref02_Instr} {ra : T_ref04_Cpu} {rb : T_ref03_Mem} (hF : Ck p0 p1 p2 = some (ra, rb)) : evS X 98 [.agg (Al p0), .agg (Ac p1), .agg (Az p2)] H = some (.tup [.agg (Ak ra), .agg (Ac rb)], H) := by
 let E1 : EN := (10, vu (IntKind.wrap .u32 p2.Imm_))
 let E2 : EN := (77, vi p2.Op_)
 let B3 : EB := (3, (Al p0))
 let B4 : EB := (4, (Ac p1))
 let B5 : EB := (5, (Az p2))
 let B6 : EB := (6, (List.replicate 19 (.top, .int .u32 0) ++ List.replicate 4 (.top, .int .i64 0) ++ [((.own 1), .sl 2 (List.map Ad ([] : List T_api_Event)))] ++ List.replicate 4 (.top, .int .u32 0) ++ [((.own 1), .sl 1 (List.map (eI .i32) ([] : List Int)))]))
 let B7 : EB := (7, (List.replicate 5 (.top, .int .u32 0) ++ [((.own 1), .sl 1 (List.map (eI .u32) ([] : List Int)))]))
 let E9 : EN := (20, vl 5 1)
 let E10 : EN := (21, vi p2.A_)
 let E11 : EN := (23, vl 3 (0 + Int.toNat p2.A_))
 let E12 : EN := (26, vi p2.B_)
 let E13 : EN := (28, vl 3 (0 + Int.toNat p2.B_))
 let E14 : EN := (11, vu p0.PC_)
 let E15 : EN := (12, vu (IntKind.wrap .u32 (p0.PC_ + 4)))
 let E16 : EN := (57, vl 3 (0 + Int.toNat p2.C_))
 let B20 : EB := (7, (Ac p1))
 let E21 : EN := (64, .agg (Al p0))
 let B22 : EB := (3, (arM .u32 16 p0.R_ ++ [(.top, .int .u32 p0.PC_), (.top, .int .u32 p0.EPC_), (.top, .int .u32 p0.Cause_), (.top, .int .i64 p0.State_), (.top, .int .i64 p0.Why_), (.top, .int .i64 p0.Steps_), (.top, .int .i64 p0.Taken_), (.top, .junk), (.top, .int .u32 p0.Entry_), (.top, .int .u32 p0.Vector_), (.top, .int .u32 p0.Guard_), (.top, .int .u32 p0.Limit_), ((.own 0), .sl 1 (List.map (eI .i32) p0.Input_))]))
 let E23 : EN := (66, .agg (Ac p1))
 let E24 : EN := (64, .agg (arM .u32 16 p0.R_ ++ [(.top, .int .u32 p0.PC_), (.top, .int .u32 p0.EPC_), (.top, .int .u32 p0.Cause_), (.top, .int .i64 p0.State_), (.top, .int .i64 p0.Why_), (.top, .int .i64 p0.Steps_), (.top, .int .i64 p0.Taken_), (.top, .junk), (.top, .int .u32 p0.Entry_), (.top, .int .u32 p0.Vector_), (.top, .int .u32 p0.Guard_), (.top, .int .u32 p0.Limit_), ((.own 0), .sl 1 (List.map (eI .i32) p0.Input_))]))
 let E26 : EN := (71, vl 3 (0 + Int.toNat p2.A_))
 let E30 : EN := (75, .agg (Ac p1))
 let B32 : EB := (6, (arM .u32 16 p0.R_ ++ [(.top, .int .u32 p0.PC_), (.top, .int .u32 p0.EPC_), (.top, .int .u32 p0.Cause_), (.top, .int .i64 1), (.top, .int .i64 p0.Why_), (.top, .int .i64 p0.Steps_), (.top, .int .i64 p0.Taken_), ((.own 1), .sl 2 (List.map Ad p0.Out_)), (.top, .int .u32 p0.Entry_), (.top, .int .u32 p0.Vector_), (.top, .int .u32 p0.Guard_), (.top, .int .u32 p0.Limit_), ((.own 0), .sl 1 (List.map (eI .i32) p0.Input_))]))
 let E33 : EN := (86, .agg (arM .u32 16 p0.R_ ++ [(.top, .int .u32 p0.PC_), (.top, .int .u32 p0.EPC_), (.top, .int .u32 p0.Cause_), (.top, .int .i64 1), (.top, .int .i64 p0.Why_), (.top, .int .i64 p0.Steps_), (.top, .int .i64 p0.Taken_), ((.own 1), .sl 2 (List.map Ad p0.Out_)), (.top, .int .u32 p0.Entry_), (.top, .int .u32 p0.Vector_), (.top, .int .u32 p0.Guard_), (.top, .int .u32 p0.Limit_), ((.own 0), .sl 1 (List.map (eI .i32) p0.Input_))]))
 let B34 : EB := (3, (arM .u32 16 p0.R_ ++ [(.top, .int .u32 p0.PC_), (.top, .int .u32 p0.EPC_), (.top, .int .u32 p0.Cause_), (.top, .int .i64 1), (.top, .int .i64 p0.Why_), (.top, .int .i64 p0.Steps_), (.top, .int .i64 p0.Taken_), (.top, .junk), (.top, .int .u32 p0.Entry_), (.top, .int .u32 p0.Vector_), (.top, .int .u32 p0.Guard_), (.top, .int .u32 p0.Limit_), ((.own 0), .sl 1 (List.map (eI .i32) p0.Input_))]))
 let E35 : EN := (87, .agg (Ac p1))
 let E36 : EN := (86, .agg (arM .u32 16 p0.R_ ++ [(.top, .int .u32 p0.PC_), (.top, .int .u32 p0.EPC_), (.top, .int .u32 p0.Cause_), (.top, .int .i64 1), (.top, .int .i64 p0.Why_), (.top, .int .i64 p0.Steps_), (.top, .int .i64 p0.Taken_), (.top, .junk), (.top, .int .u32 p0.Entry_), (.top, .int .u32 p0.Vector_), (.top, .int .u32 p0.Guard_), (.top, .int .u32 p0.Limit_), ((.own 0), .sl 1 (List.map (eI .i32) p0.Input_))]))
 let E44 : EN := (94, vl 3 (0 + Int.toNat p2.A_))
 let E46 : EN := (102, vl 3 (0 + Int.toNat p2.A_))
 let E48 : EN := (111, vl 3 (0 + Int.toNat p2.A_))
 let E50 : EN := (120, vl 3 (0 + Int.toNat p2.A_))
 let E52 : EN := (129, vl 3 (0 + Int.toNat p2.A_))
 let E56 : EN := (142, .agg (Al p0))
 let E58 : EN := (145, .agg (Ac p1))
 let E59 : EN := (142, .agg (arM .u32 16 p0.R_ ++ [(.top, .int .u32 p0.PC_), (.top, .int .u32 p0.EPC_), (.top, .int .u32 p0.Cause_), (.top, .int .i64 p0.State_), (.top, .int .i64 p0.Why_), (.top, .int .i64 p0.Steps_), (.top, .int .i64 p0.Taken_), (.top, .junk), (.top, .int .u32 p0.Entry_), (.top, .int .u32 p0.Vector_), (.top, .int .u32 p0.Guard_), (.top, .int .u32 p0.Limit_), ((.own 0), .sl 1 (List.map (eI .i32) p0.Input_))]))
 let E61 : EN := (150, vl 3 (0 + Int.toNat p2.A_))
 let E62 : EN := (18, vl 18 0)
 let E67 : EN := (164, .agg (Al p0))
 let E69 : EN := (167, .agg (Ac p1))
 let E70 : EN := (164, .agg (arM .u32 16 p0.R_ ++ [(.top, .int .u32 p0.PC_), (.top, .int .u32 p0.EPC_), (.top, .int .u32 p0.Cause_), (.top, .int .i64 p0.State_), (.top, .int .i64 p0.Why_), (.top, .int .i64 p0.Steps_), (.top, .int .i64 p0.Taken_), (.top, .junk), (.top, .int .u32 p0.Entry_), (.top, .int .u32 p0.Vector_), (.top, .int .u32 p0.Guard_), (.top, .int .u32 p0.Limit_), ((.own 0), .sl 1 (List.map (eI .i32) p0.Input_))]))
 let E71 : EN := (13, vu (IntKind.wrap .u32 ((IntKind.wrap .u32 (p0.PC_ + 4)) + (IntKind.wrap .u32 (4 * (IntKind.wrap .u32 p2.Imm_))))))
 let B72 : EB := (3, (arM .u32 14 p0.R_ ++ [(.top, .int .u32 (IntKind.wrap .u32 (p0.PC_ + 4))), (.top, .int .u32 (p0.R_.g 15)), (.top, .int .u32 p0.PC_), (.top, .int .u32 p0.EPC_), (.top, .int .u32 p0.Cause_), (.top, .int .i64 p0.State_), (.top, .int .i64 p0.Why_), (.top, .int .i64 p0.Steps_), (.top, .int .i64 p0.Taken_), ((.own 1), .sl 2 (List.map Ad p0.Out_)), (.top, .int .u32 p0.Entry_), (.top, .int .u32 p0.Vector_), (.top, .int .u32 p0.Guard_), (.top, .int .u32 p0.Limit_), ((.own 0), .sl 1 (List.map (eI .i32) p0.Input_))]))
 let E74 : EN := (78, .agg (Al p0))
 let E75 : EN := (79, .agg (Az p2))
 let E77 : EN := (82, .agg (Ac p1))
 let E78 : EN := (78, .agg (arM .u32 16 p0.R_ ++ [(.top, .int .u32 p0.PC_), (.top, .int .u32 p0.EPC_), (.top, .int .u32 p0.Cause_), (.top, .int .i64 p0.State_), (.top, .int .i64 p0.Why_), (.top, .int .i64 p0.Steps_), (.top, .int .i64 p0.Taken_), (.top, .junk), (.top, .int .u32 p0.Entry_), (.top, .int .u32 p0.Vector_), (.top, .int .u32 p0.Guard_), (.top, .int .u32 p0.Limit_), ((.own 0), .sl 1 (List.map (eI .i32) p0.Input_))]))
 let L79 : List EN := [(6, vl 6 0), (7, vl 7 0)]
 let L80 : List EN := [(3, vl 3 0), (4, vl 4 0), (5, vl 5 0)] ++ L79
 let L81 : List EN := [(3, vl 3 0), (4, vl 4 0)] ++ L79
 let L83 : List EN := [E15, E71]
 let L91 : List EN := L81 ++ [E15]
 let L92 : List EN := L80 ++ [E9, E10, (22, vl 3 0)]
 let L93 : List EN := L80 ++ [E1, E15]
 let L102 : List EN := L81 ++ [(12, vu (IntKind.wrap .u32 ((IntKind.wrap .u32 (p0.PC_ + 4)) + (IntKind.wrap .u32 (4 * (IntKind.wrap .u32 p2.Imm_))))))]
 let L108 : List EN := L93 ++ [(90, vl 5 1), (91, vi p2.A_), (92, vu (IntKind.wrap .u32 p2.Imm_)), (93, vl 3 0)]
 let L109 : List EN := L93 ++ [(97, vl 5 1), (98, vi p2.A_), (99, vu (IntKind.wrap .u32 p2.Imm_)), (100, vu (IntKind.wrap .u32 ((IntKind.wrap .u32 p2.Imm_) * 65536))), (101, vl 3 0)]
 refine yf Try.func98 true ⟨[(0, .agg (Al p0)), (1, .agg (Ac p1)), (2, .agg (Az p2))], [], H⟩ ?_
 unfold Ck at hF
 refine ysg ⟨L80, [B3, B4, B5, B6, B7], H⟩ ?_
 refine Ag ?_
 obtain ⟨v1, h2, hF⟩ := Ab hF
 let E76 : EN := (80, vu v1)
 let L82 : List EN := L80 ++ [(8, vu v1)]
 let L95 : List EN := [E11, (24, vu v1), (25, vl 5 2)]
 let L101 : List EN := L81 ++ [(8, vu v1)]
 let L104 : List EN := L92 ++ L95 ++ [E12, (27, vl 3 0)]
 let L113 : List EN := L82 ++ [E14] ++ L83 ++ [E2]
 let L116 : List EN := L82 ++ [E14, E71, E2]
 obtain ⟨v3, h4, hF⟩ := Ab hF
 let E8 : EN := (9, vu v3)
 let L84 : List EN := L82 ++ [E8, E1]
 let L85 : List EN := [E8, E1, E15]
 let L86 : List EN := L84 ++ [E14] ++ L83
 let L87 : List EN := L80 ++ L85
 let L88 : List EN := L80 ++ [E8, E15]
 let L89 : List EN := L86 ++ [E2]
 let L90 : List EN := [(51, vl 5 0), (52, vi p2.Op_), (53, vu v3)]
 let L94 : List EN := L90 ++ [(54, vl 5 3), (55, vi p2.C_), (56, vl 3 0)]
 let L103 : List EN := L86 ++ [(42, vl 5 0), (43, vi p2.Op_)]
 let L105 : List EN := L87 ++ [(105, vl 5 1), (106, vi p2.A_), (107, vu v3), (108, vu (IntKind.wrap .u32 p2.Imm_)), (109, vu (A9 .or .u32 v3 (IntKind.wrap .u32 p2.Imm_))), (110, vl 3 0)]
 let L106 : List EN := L87 ++ [(114, vl 5 1), (115, vi p2.A_), (116, vu v3), (117, vu (IntKind.wrap .u32 p2.Imm_)), (118, vu (IntKind.wrap .u32 (v3 + (IntKind.wrap .u32 p2.Imm_)))), (119, vl 3 0)]
 let L107 : List EN := L87 ++ [(123, vl 5 1), (124, vi p2.A_), (125, vu v3), (126, vu (IntKind.wrap .u32 p2.Imm_)), (127, vu (A9 .xor .u32 v3 (IntKind.wrap .u32 p2.Imm_))), (128, vl 3 0)]
 let L112 : List EN := [(133, .agg (Ac p1)), (134, vu v3), (135, vu (IntKind.wrap .u32 p2.Imm_)), (136, vu (IntKind.wrap .u32 (v3 + (IntKind.wrap .u32 p2.Imm_))))]
 let L114 : List EN := [(154, .agg (Ac p1)), (155, vu v3), (156, vu (IntKind.wrap .u32 p2.Imm_)), (157, vu (IntKind.wrap .u32 (v3 + (IntKind.wrap .u32 p2.Imm_)))), (158, vu v1)]
 let L121 : List EN := [E9, E10, (22, vl 3 0)] ++ L95 ++ [E12, (27, vl 3 0), E13, (29, vu v3)]
 refine Bs (.take 0 (.take 1 (.take 2 (.take 3 (.take 4 (.take 5 (.take 6 (.take 7 (.take 8 (.take 9 (.take 10 (.take 11 .done)))))))))))) (by kernel_rfl) (⟨L82 ++ [E8], [B3, B4, B5, B6, B7], H⟩ : St) ?_ ?_
 refine ydk 3 ⟨L92, [B3, B4, B5, B6, B7], H⟩ ?_
 refine Aq ⟨L92 ++ [E11], [B3, B4, B5, B6, B7], H⟩ (Jv (X := X) (⟨L92, [B3, B4, B5, B6, B7], H⟩ : St) 46 35 16 h2 3 0 (some 23) (by kernel_rfl) (by kernel_rfl) (by kernel_rfl) (by kernel_rfl)) ?_
 refine Aq ⟨L92 ++ [E11, (24, vu v1)], [B3, B4, B5, B6, B7], H⟩ (Tu (X := X) (⟨L92 ++ [E11], [B3, B4, B5, B6, B7], H⟩ : St) 35 16 h2 3 0 (Al p0) (fun q => .int .u32 q) (some 24) (by kernel_rfl) (by kernel_rfl) (by kernel_rfl) (by kernel_rfl) (by kernel_rfl) (by kernel_rfl)) ?_
 refine ydk 3 ⟨L104, [B3, B4, B5, B6, B7], H⟩ ?_
 refine Aq ⟨L104 ++ [E13], [B3, B4, B5, B6, B7], H⟩ (Jv (X := X) (⟨L104, [B3, B4, B5, B6, B7], H⟩ : St) 46 35 16 h4 3 0 (some 28) (by kernel_rfl) (by kernel_rfl) (by kernel_rfl) (by kernel_rfl)) ?_
 refine Aq ⟨L104 ++ [E13, (29, vu v3)], [B3, B4, B5, B6, B7], H⟩ (Tu (X := X) (⟨L104 ++ [E13], [B3, B4, B5, B6, B7], H⟩ : St) 35 16 h4 3 0 (Al p0) (fun q => .int .u32 q) (some 29) (by kernel_rfl) (by kernel_rfl) (by kernel_rfl) (by kernel_rfl) (by kernel_rfl) (by kernel_rfl)) ?_
 refine ydk 2 ⟨L82 ++ [E8] ++ L121, [B3, B4, B5, B6, B7], H⟩ ?_
 exact yde
 refine ysg ⟨L84, [B3, B4, B5, B6, B7], H⟩ ?_
 refine ysg ⟨L84 ++ [E14], [B3, B4, B5, B6, B7], H⟩ ?_
 refine ysg ⟨L84 ++ [E14, E15], [B3, B4, B5, B6, B7], H⟩ ?_
 refine ysg ⟨L86, [B3, B4, B5, B6, B7], H⟩ ?_
 refine Ag ?_
 refine yso ⟨L86 ++ [(49, vb ((decide (p2.Op_ ≥ 6)) && (decide (p2.Op_ ≤ 17))))], [B3, B4, B5, B6, B7], H⟩ ?_ ?_
 refine yr 4 ⟨L103 ++ [(44, vb (decide (p2.Op_ ≥ 6))), (45, vb (decide (p2.Op_ ≥ 6)))], [B3, B4, B5, B6, B7], H⟩ ?_
 rcases Ax (decide (p2.Op_ ≥ 6)) with h5 | h5
 refine Bd (congrArg (fun q => (⟨L103 ++ [(44, vb q), (45, vb q)], [B3, B4, B5, B6, B7], H⟩ : St)) h5) ?_
 refine yr 4 ⟨L103 ++ [(44, vT), (45, vT), (46, vl 5 0), (47, vi p2.Op_), (48, vb (decide (p2.Op_ ≤ 17))), (49, vb (decide (p2.Op_ ≤ 17)))], [B3, B4, B5, B6, B7], H⟩ ?_
 refine Bw (congrArg (fun q0 => (⟨L86 ++ [(49, vb q0)], [B3, B4, B5, B6, B7], H⟩ : St)) (show (decide (p2.Op_ ≤ 17)) = ((decide (p2.Op_ ≥ 6)) && (decide (p2.Op_ ≤ 17))) by simp [h5])) ?_
 exact ye
 refine Bd (congrArg (fun q => (⟨L103 ++ [(44, vb q), (45, vb q)], [B3, B4, B5, B6, B7], H⟩ : St)) h5) ?_
 refine yr 4 ⟨L103 ++ [(44, vF), (45, vF), (46, vN), (47, vN), (48, vN), (49, vF)], [B3, B4, B5, B6, B7], H⟩ ?_
 refine Bw (congrArg (fun q0 => (⟨L86 ++ [(49, vb q0)], [B3, B4, B5, B6, B7], H⟩ : St)) (show false = ((decide (p2.Op_ ≥ 6)) && (decide (p2.Op_ ≤ 17))) by simp [h5])) ?_
 exact ye
 rcases Ae hF with ⟨h6, hF⟩ | ⟨h6, hF⟩
 refine yT h6 ⟨L88, [B3, B4, B5, B6, B7], H⟩ ?_
 refine Ag ?_
 obtain ⟨v7, h8, hF⟩ := Ab hF
 let L100 : List EN := L94 ++ [E16, (58, vu v7)]
 obtain ⟨r9, r10, c11, hF⟩ := Be hF
 let E17 : EN := (59, .tup [vu r9, vb r10])
 let E18 : EN := (50, .tup [vu r9, vb r10])
 let L98 : List EN := L80 ++ [E15, (14, vu r9)]
 let L110 : List EN := L98 ++ [(67, vl 5 1), (68, vi p2.A_), (69, vu r9), (70, vl 3 0)]
 let L120 : List EN := [E18] ++ L100 ++ [E17, (60, vu r9), (61, vb r10)]
 refine Bs (.take 0 (.take 1 (.take 2 (.take 3 (.take 4 (.take 5 (.take 6 (.last 7 (.last 8 (.take 9 (.take 10 (.take 11 (.take 12 (.take 13 .done)))))))))))))) (by kernel_rfl) (⟨L98 ++ [(15, vb r10)], [B3, B4, B5, B6, B7], H⟩ : St) ?_ ?_
 refine ydk 6 ⟨L88 ++ L94, [B3, B4, B5, B6, B7], H⟩ ?_
 refine Aq ⟨L88 ++ L94 ++ [E16], [B3, B4, B5, B6, B7], H⟩ (Jv (X := X) (⟨L88 ++ L94, [B3, B4, B5, B6, B7], H⟩ : St) 46 35 16 h8 3 0 (some 57) (by kernel_rfl) (by kernel_rfl) (by kernel_rfl) (by kernel_rfl)) ?_
 refine Br ⟨L88 ++ L100, [B3, B4, B5, B6, B7], H⟩ (Tu (X := X) (⟨L88 ++ L94 ++ [E16], [B3, B4, B5, B6, B7], H⟩ : St) 35 16 h8 3 0 (Al p0) (fun q => .int .u32 q) (some 58) (by kernel_rfl) (by kernel_rfl) (by kernel_rfl) (by kernel_rfl) (by kernel_rfl) (by kernel_rfl)) ?_
 refine Br ⟨L88 ++ L100 ++ [E17], [B3, B4, B5, B6, B7], H⟩ (yc (some 59) true false (⟨L88 ++ L100, [B3, B4, B5, B6, B7], H⟩ : St) (Wh H c11)) ?_
 refine ydk 5 ⟨L88 ++ [(14, vu r9), (15, vb r10)] ++ L120, [B3, B4, B5, B6, B7], H⟩ ?_
 exact yde
 refine Ag ?_
 refine ysg ⟨L98 ++ [(63, vb (!r10))], [B3, B4, B5, B6, B7], H⟩ ?_
 rcases Ae hF with ⟨h12, hF⟩ | ⟨h12, hF⟩
 refine yT h12 ⟨L81, [B3, B4, B6, B7], H⟩ ?_
 refine Ag ?_
 obtain ⟨r13, c14, hF⟩ := Ab hF
 let B19 : EB := (6, (Ak r13))
 let L115 : List EN := L81 ++ [E24, (65, .agg (Ak r13)), E23]
 refine Bs (.take 0 (.take 2 (.last 1 (.last 3 (.last 4 .done))))) (by kernel_rfl) (⟨L79, [B19, B20], H⟩ : St) ?_ ?_
 refine ydk 2 ⟨L81 ++ [E21, E23], [B22, B4, B6, B7], H⟩ ?_
 refine Br ⟨L115, [B22, B4, B6, B7], H⟩ (yc (some 65) true true (⟨L81 ++ [E24, E23], [B22, B4, B6, B7], H⟩ : St) (Gv H c14)) ?_
 refine ydl ⟨L115, [B22, B4, B19, B7], H⟩ ?_
 refine ydl ⟨L115, [B22, B4, B19, B20], H⟩ ?_
 exact yde
 refine Au ?_
 obtain ⟨e0, e1⟩ := Ar hF
 subst e0
 subst e1
 exact yp (.tup [.agg (Ak r13), .agg (Ac p1)])
 refine yF h12 ⟨L98, [B3, B4, B5, B6, B7], H⟩ ?_
 refine Ao ?_
 refine Ag ?_
 obtain ⟨v15, h16, hF⟩ := Ab hF
 obtain ⟨v17, h18, hF⟩ := Ab hF
 let B25 : EB := (3, (arM .u32 16 v17 ++ [(.top, .int .u32 p0.PC_), (.top, .int .u32 p0.EPC_), (.top, .int .u32 p0.Cause_), (.top, .int .i64 p0.State_), (.top, .int .i64 p0.Why_), (.top, .int .i64 p0.Steps_), (.top, .int .i64 p0.Taken_), ((.own 1), .sl 2 (List.map Ad p0.Out_)), (.top, .int .u32 p0.Entry_), (.top, .int .u32 p0.Vector_), (.top, .int .u32 p0.Guard_), (.top, .int .u32 p0.Limit_), ((.own 0), .sl 1 (List.map (eI .i32) p0.Input_))]))
 let B27 : EB := (6, (arM .u32 16 v17 ++ [(.top, .int .u32 (IntKind.wrap .u32 (p0.PC_ + 4))), (.top, .int .u32 p0.EPC_), (.top, .int .u32 p0.Cause_), (.top, .int .i64 p0.State_), (.top, .int .i64 p0.Why_), (.top, .int .i64 p0.Steps_), (.top, .int .i64 p0.Taken_), ((.own 1), .sl 2 (List.map Ad p0.Out_)), (.top, .int .u32 p0.Entry_), (.top, .int .u32 p0.Vector_), (.top, .int .u32 p0.Guard_), (.top, .int .u32 p0.Limit_), ((.own 0), .sl 1 (List.map (eI .i32) p0.Input_))]))
 let E28 : EN := (74, .agg (arM .u32 16 v17 ++ [(.top, .int .u32 (IntKind.wrap .u32 (p0.PC_ + 4))), (.top, .int .u32 p0.EPC_), (.top, .int .u32 p0.Cause_), (.top, .int .i64 p0.State_), (.top, .int .i64 p0.Why_), (.top, .int .i64 p0.Steps_), (.top, .int .i64 p0.Taken_), ((.own 1), .sl 2 (List.map Ad p0.Out_)), (.top, .int .u32 p0.Entry_), (.top, .int .u32 p0.Vector_), (.top, .int .u32 p0.Guard_), (.top, .int .u32 p0.Limit_), ((.own 0), .sl 1 (List.map (eI .i32) p0.Input_))]))
 let B29 : EB := (3, (arM .u32 16 v17 ++ [(.top, .int .u32 (IntKind.wrap .u32 (p0.PC_ + 4))), (.top, .int .u32 p0.EPC_), (.top, .int .u32 p0.Cause_), (.top, .int .i64 p0.State_), (.top, .int .i64 p0.Why_), (.top, .int .i64 p0.Steps_), (.top, .int .i64 p0.Taken_), (.top, .junk), (.top, .int .u32 p0.Entry_), (.top, .int .u32 p0.Vector_), (.top, .int .u32 p0.Guard_), (.top, .int .u32 p0.Limit_), ((.own 0), .sl 1 (List.map (eI .i32) p0.Input_))]))
 let E31 : EN := (74, .agg (arM .u32 16 v17 ++ [(.top, .int .u32 (IntKind.wrap .u32 (p0.PC_ + 4))), (.top, .int .u32 p0.EPC_), (.top, .int .u32 p0.Cause_), (.top, .int .i64 p0.State_), (.top, .int .i64 p0.Why_), (.top, .int .i64 p0.Steps_), (.top, .int .i64 p0.Taken_), (.top, .junk), (.top, .int .u32 p0.Entry_), (.top, .int .u32 p0.Vector_), (.top, .int .u32 p0.Guard_), (.top, .int .u32 p0.Limit_), ((.own 0), .sl 1 (List.map (eI .i32) p0.Input_))]))
 refine Aj ⟨L91, [B25, B4, B6, B7], H⟩ ?_ ?_
 refine yr 4 ⟨L110, [B3, B4, B5, B6, B7], H⟩ ?_
 refine Ai ⟨L110 ++ [E26], [B3, B4, B5, B6, B7], H⟩ (Jv (X := X) (⟨L110, [B3, B4, B5, B6, B7], H⟩ : St) 46 35 16 h16 3 0 (some 71) (by kernel_rfl) (by kernel_rfl) (by kernel_rfl) (by kernel_rfl)) ?_
 refine Ai ⟨L110 ++ [E26], [B25, B4, B5, B6, B7], H⟩ (Ot (X := X) (⟨L110 ++ [E26], [B3, B4, B5, B6, B7], H⟩ : St) 35 16 h18 3 0 (Al p0) (fun q => .int .u32 q) ⟨true, []⟩ (by kernel_rfl) (by kernel_rfl) (by kernel_rfl) (by kernel_rfl) (by kernel_rfl) (fun _ => rfl) (by kernel_rfl)) ?_
 exact ye
 refine ysg ⟨L81, [(3, (arM .u32 16 v17 ++ [(.top, .int .u32 (IntKind.wrap .u32 (p0.PC_ + 4))), (.top, .int .u32 p0.EPC_), (.top, .int .u32 p0.Cause_), (.top, .int .i64 p0.State_), (.top, .int .i64 p0.Why_), (.top, .int .i64 p0.Steps_), (.top, .int .i64 p0.Taken_), ((.own 1), .sl 2 (List.map Ad p0.Out_)), (.top, .int .u32 p0.Entry_), (.top, .int .u32 p0.Vector_), (.top, .int .u32 p0.Guard_), (.top, .int .u32 p0.Limit_), ((.own 0), .sl 1 (List.map (eI .i32) p0.Input_))])), B4, B6, B7], H⟩ ?_
 refine Ag ?_
 refine Bs (.take 0 (.take 1 (.last 2 (.last 3 .done)))) (by kernel_rfl) (⟨L79, [B27, B20], H⟩ : St) ?_ ?_
 refine ydk 2 ⟨L81 ++ [E28, E30], [B29, B4, B6, B7], H⟩ ?_
 refine ydl ⟨L81 ++ [E31, E30], [B29, B4, B27, B7], H⟩ ?_
 refine ydl ⟨L81 ++ [E31, E30], [B29, B4, B27, B20], H⟩ ?_
 exact yde
 refine Au ?_
 obtain ⟨e0, e1⟩ := Ar hF
 subst e0
 subst e1
 exact yp (.tup [.agg (arM .u32 16 v17 ++ [(.top, .int .u32 (IntKind.wrap .u32 (p0.PC_ + 4))), (.top, .int .u32 p0.EPC_), (.top, .int .u32 p0.Cause_), (.top, .int .i64 p0.State_), (.top, .int .i64 p0.Why_), (.top, .int .i64 p0.Steps_), (.top, .int .i64 p0.Taken_), ((.own 1), .sl 2 (List.map Ad p0.Out_)), (.top, .int .u32 p0.Entry_), (.top, .int .u32 p0.Vector_), (.top, .int .u32 p0.Guard_), (.top, .int .u32 p0.Limit_), ((.own 0), .sl 1 (List.map (eI .i32) p0.Input_))]), .agg (Ac p1)])
 refine yF h6 ⟨L86, [B3, B4, B5, B6, B7], H⟩ ?_
 refine Ao ?_
 refine Ag ?_
 refine ysg ⟨L89, [B3, B4, B5, B6, B7], H⟩ ?_
 refine Bt ?_
 refine ysg ⟨L89 ++ [(83, vb (p2.Op_ == 1))], [B3, B4, B5, B6, B7], H⟩ ?_
 rcases Ae hF with ⟨h19, hF⟩ | ⟨h19, hF⟩
 refine yT h19 ⟨L81, [B3, B4, B6, B7], H⟩ ?_
 refine ysg ⟨L81, [(3, (arM .u32 16 p0.R_ ++ [(.top, .int .u32 p0.PC_), (.top, .int .u32 p0.EPC_), (.top, .int .u32 p0.Cause_), (.top, .int .i64 1), (.top, .int .i64 p0.Why_), (.top, .int .i64 p0.Steps_), (.top, .int .i64 p0.Taken_), ((.own 1), .sl 2 (List.map Ad p0.Out_)), (.top, .int .u32 p0.Entry_), (.top, .int .u32 p0.Vector_), (.top, .int .u32 p0.Guard_), (.top, .int .u32 p0.Limit_), ((.own 0), .sl 1 (List.map (eI .i32) p0.Input_))])), B4, B6, B7], H⟩ ?_
 refine Ag ?_
 refine Bs (.take 0 (.take 1 (.last 2 (.last 3 .done)))) (by kernel_rfl) (⟨L79, [B32, B20], H⟩ : St) ?_ ?_
 refine ydk 2 ⟨L81 ++ [E33, E35], [B34, B4, B6, B7], H⟩ ?_
 refine ydl ⟨L81 ++ [E36, E35], [B34, B4, B32, B7], H⟩ ?_
 refine ydl ⟨L81 ++ [E36, E35], [B34, B4, B32, B20], H⟩ ?_
 exact yde
 refine Au ?_
 obtain ⟨e0, e1⟩ := Ar hF
 subst e0
 subst e1
 exact yp (.tup [.agg (arM .u32 16 p0.R_ ++ [(.top, .int .u32 p0.PC_), (.top, .int .u32 p0.EPC_), (.top, .int .u32 p0.Cause_), (.top, .int .i64 1), (.top, .int .i64 p0.Why_), (.top, .int .i64 p0.Steps_), (.top, .int .i64 p0.Taken_), ((.own 1), .sl 2 (List.map Ad p0.Out_)), (.top, .int .u32 p0.Entry_), (.top, .int .u32 p0.Vector_), (.top, .int .u32 p0.Guard_), (.top, .int .u32 p0.Limit_), ((.own 0), .sl 1 (List.map (eI .i32) p0.Input_))]), .agg (Ac p1)])
 refine yF h19 ⟨L89, [B3, B4, B5, B6, B7], H⟩ ?_
 refine ysg ⟨L89 ++ [(88, vb (p2.Op_ == 2))], [B3, B4, B5, B6, B7], H⟩ ?_
 refine As (α := (Int × T_ref04_Cpu × T_ref03_Mem)) (fun x => (⟨L81 ++ [(12, vu x.1)], [(3, (Al x.2.1)), (4, (Ac x.2.2)), B6, B7], H⟩ : St)) (fun x => Nn x.1 x.2.1 x.2.2 = some (ra, rb)) ?_ ?_
 rintro ⟨j20, j21, j22⟩ hF
 replace hF : Nn j20 j21 j22 = some (ra, rb) := hF
 let B37 : EB := (4, (Ac j22))
 let B38 : EB := (6, (arM .u32 16 j21.R_ ++ [(.top, .int .u32 j20), (.top, .int .u32 j21.EPC_), (.top, .int .u32 j21.Cause_), (.top, .int .i64 j21.State_), (.top, .int .i64 j21.Why_), (.top, .int .i64 j21.Steps_), (.top, .int .i64 j21.Taken_), ((.own 1), .sl 2 (List.map Ad j21.Out_)), (.top, .int .u32 j21.Entry_), (.top, .int .u32 j21.Vector_), (.top, .int .u32 j21.Guard_), (.top, .int .u32 j21.Limit_), ((.own 0), .sl 1 (List.map (eI .i32) j21.Input_))]))
 let E39 : EN := (191, .agg (arM .u32 16 j21.R_ ++ [(.top, .int .u32 j20), (.top, .int .u32 j21.EPC_), (.top, .int .u32 j21.Cause_), (.top, .int .i64 j21.State_), (.top, .int .i64 j21.Why_), (.top, .int .i64 j21.Steps_), (.top, .int .i64 j21.Taken_), ((.own 1), .sl 2 (List.map Ad j21.Out_)), (.top, .int .u32 j21.Entry_), (.top, .int .u32 j21.Vector_), (.top, .int .u32 j21.Guard_), (.top, .int .u32 j21.Limit_), ((.own 0), .sl 1 (List.map (eI .i32) j21.Input_))]))
 let B40 : EB := (3, (arM .u32 16 j21.R_ ++ [(.top, .int .u32 j20), (.top, .int .u32 j21.EPC_), (.top, .int .u32 j21.Cause_), (.top, .int .i64 j21.State_), (.top, .int .i64 j21.Why_), (.top, .int .i64 j21.Steps_), (.top, .int .i64 j21.Taken_), (.top, .junk), (.top, .int .u32 j21.Entry_), (.top, .int .u32 j21.Vector_), (.top, .int .u32 j21.Guard_), (.top, .int .u32 j21.Limit_), ((.own 0), .sl 1 (List.map (eI .i32) j21.Input_))]))
 let E41 : EN := (192, .agg (Ac j22))
 let E42 : EN := (191, .agg (arM .u32 16 j21.R_ ++ [(.top, .int .u32 j20), (.top, .int .u32 j21.EPC_), (.top, .int .u32 j21.Cause_), (.top, .int .i64 j21.State_), (.top, .int .i64 j21.Why_), (.top, .int .i64 j21.Steps_), (.top, .int .i64 j21.Taken_), (.top, .junk), (.top, .int .u32 j21.Entry_), (.top, .int .u32 j21.Vector_), (.top, .int .u32 j21.Guard_), (.top, .int .u32 j21.Limit_), ((.own 0), .sl 1 (List.map (eI .i32) j21.Input_))]))
 unfold Nn at hF
 refine ysg ⟨L81, [(3, (arM .u32 16 j21.R_ ++ [(.top, .int .u32 j20), (.top, .int .u32 j21.EPC_), (.top, .int .u32 j21.Cause_), (.top, .int .i64 j21.State_), (.top, .int .i64 j21.Why_), (.top, .int .i64 j21.Steps_), (.top, .int .i64 j21.Taken_), ((.own 1), .sl 2 (List.map Ad j21.Out_)), (.top, .int .u32 j21.Entry_), (.top, .int .u32 j21.Vector_), (.top, .int .u32 j21.Guard_), (.top, .int .u32 j21.Limit_), ((.own 0), .sl 1 (List.map (eI .i32) j21.Input_))])), B37, B6, B7], H⟩ ?_
 refine Ag ?_
 refine Bs (.take 0 (.take 1 (.last 2 (.last 3 .done)))) (by kernel_rfl) (⟨L79, [B38, (7, (Ac j22))], H⟩ : St) ?_ ?_
 refine ydk 2 ⟨L81 ++ [E39, E41], [B40, B37, B6, B7], H⟩ ?_
 refine ydl ⟨L81 ++ [E42, E41], [B40, B37, B38, B7], H⟩ ?_
 refine ydl ⟨L81 ++ [E42, E41], [B40, B37, B38, (7, (Ac j22))], H⟩ ?_
 exact yde
 refine Au ?_
 obtain ⟨e0, e1⟩ := Ar hF
 subst e0
 subst e1
 exact yp (.tup [.agg (arM .u32 16 j21.R_ ++ [(.top, .int .u32 j20), (.top, .int .u32 j21.EPC_), (.top, .int .u32 j21.Cause_), (.top, .int .i64 j21.State_), (.top, .int .i64 j21.Why_), (.top, .int .i64 j21.Steps_), (.top, .int .i64 j21.Taken_), ((.own 1), .sl 2 (List.map Ad j21.Out_)), (.top, .int .u32 j21.Entry_), (.top, .int .u32 j21.Vector_), (.top, .int .u32 j21.Guard_), (.top, .int .u32 j21.Limit_), ((.own 0), .sl 1 (List.map (eI .i32) j21.Input_))]), .agg (Ac j22)])
 rcases Ae hF with ⟨h23, hF⟩ | ⟨h23, hF⟩
 refine yT h23 ⟨L93, [B3, B4, B5, B6, B7], H⟩ ?_
 obtain ⟨v24, h25, hF⟩ := Ab hF
 obtain ⟨v26, h27, hF⟩ := Ab hF
 let B43 : EB := (3, (arM .u32 16 v26 ++ [(.top, .int .u32 p0.PC_), (.top, .int .u32 p0.EPC_), (.top, .int .u32 p0.Cause_), (.top, .int .i64 p0.State_), (.top, .int .i64 p0.Why_), (.top, .int .i64 p0.Steps_), (.top, .int .i64 p0.Taken_), ((.own 1), .sl 2 (List.map Ad p0.Out_)), (.top, .int .u32 p0.Entry_), (.top, .int .u32 p0.Vector_), (.top, .int .u32 p0.Guard_), (.top, .int .u32 p0.Limit_), ((.own 0), .sl 1 (List.map (eI .i32) p0.Input_))]))
 refine Aj ⟨L91, [B43, B4, B6, B7], H⟩ ?_ ?_
 refine yr 4 ⟨L108, [B3, B4, B5, B6, B7], H⟩ ?_
 refine Ai ⟨L108 ++ [E44], [B3, B4, B5, B6, B7], H⟩ (Jv (X := X) (⟨L108, [B3, B4, B5, B6, B7], H⟩ : St) 46 35 16 h25 3 0 (some 94) (by kernel_rfl) (by kernel_rfl) (by kernel_rfl) (by kernel_rfl)) ?_
 refine Ai ⟨L108 ++ [E44], [B43, B4, B5, B6, B7], H⟩ (Ot (X := X) (⟨L108 ++ [E44], [B3, B4, B5, B6, B7], H⟩ : St) 35 16 h27 3 0 (Al p0) (fun q => .int .u32 q) ⟨true, []⟩ (by kernel_rfl) (by kernel_rfl) (by kernel_rfl) (by kernel_rfl) (by kernel_rfl) (fun _ => rfl) (by kernel_rfl)) ?_
 exact ye
 exact ⟨((IntKind.wrap .u32 (p0.PC_ + 4)), (T_ref04_Cpu.mk v26 p0.PC_ p0.EPC_ p0.Cause_ p0.State_ p0.Why_ p0.Steps_ p0.Taken_ p0.Out_ p0.Entry_ p0.Vector_ p0.Guard_ p0.Limit_ p0.Input_), p1), hF, (by kernel_rfl)⟩
 refine yF h23 ⟨L89, [B3, B4, B5, B6, B7], H⟩ ?_
 refine ysg ⟨L89 ++ [(95, vb (p2.Op_ == 3))], [B3, B4, B5, B6, B7], H⟩ ?_
 refine As (α := (Int × T_ref04_Cpu × T_ref03_Mem)) (fun x => (⟨L81 ++ [(12, vu x.1)], [(3, (Al x.2.1)), (4, (Ac x.2.2)), B6, B7], H⟩ : St)) (fun x => Np x.1 x.2.1 x.2.2 = some (ra, rb)) ?_ ?_
 rintro ⟨j28, j29, j30⟩ hF
 replace hF : Np j28 j29 j30 = some (ra, rb) := hF
 unfold Np at hF
 exact ⟨(j28, j29, j30), hF, (by kernel_rfl)⟩
 rcases Ae hF with ⟨h31, hF⟩ | ⟨h31, hF⟩
 refine yT h31 ⟨L93, [B3, B4, B5, B6, B7], H⟩ ?_
 obtain ⟨v32, h33, hF⟩ := Ab hF
 obtain ⟨v34, h35, hF⟩ := Ab hF
 let B45 : EB := (3, (arM .u32 16 v34 ++ [(.top, .int .u32 p0.PC_), (.top, .int .u32 p0.EPC_), (.top, .int .u32 p0.Cause_), (.top, .int .i64 p0.State_), (.top, .int .i64 p0.Why_), (.top, .int .i64 p0.Steps_), (.top, .int .i64 p0.Taken_), ((.own 1), .sl 2 (List.map Ad p0.Out_)), (.top, .int .u32 p0.Entry_), (.top, .int .u32 p0.Vector_), (.top, .int .u32 p0.Guard_), (.top, .int .u32 p0.Limit_), ((.own 0), .sl 1 (List.map (eI .i32) p0.Input_))]))
 refine Aj ⟨L91, [B45, B4, B6, B7], H⟩ ?_ ?_
 refine yr 5 ⟨L109, [B3, B4, B5, B6, B7], H⟩ ?_
 refine Ai ⟨L109 ++ [E46], [B3, B4, B5, B6, B7], H⟩ (Jv (X := X) (⟨L109, [B3, B4, B5, B6, B7], H⟩ : St) 46 35 16 h33 3 0 (some 102) (by kernel_rfl) (by kernel_rfl) (by kernel_rfl) (by kernel_rfl)) ?_
 refine Ai ⟨L109 ++ [E46], [B45, B4, B5, B6, B7], H⟩ (Ot (X := X) (⟨L109 ++ [E46], [B3, B4, B5, B6, B7], H⟩ : St) 35 16 h35 3 0 (Al p0) (fun q => .int .u32 q) ⟨true, []⟩ (by kernel_rfl) (by kernel_rfl) (by kernel_rfl) (by kernel_rfl) (by kernel_rfl) (fun _ => rfl) (by kernel_rfl)) ?_
 exact ye
 exact ⟨((IntKind.wrap .u32 (p0.PC_ + 4)), (T_ref04_Cpu.mk v34 p0.PC_ p0.EPC_ p0.Cause_ p0.State_ p0.Why_ p0.Steps_ p0.Taken_ p0.Out_ p0.Entry_ p0.Vector_ p0.Guard_ p0.Limit_ p0.Input_), p1), hF, (by kernel_rfl)⟩
 refine yF h31 ⟨L89, [B3, B4, B5, B6, B7], H⟩ ?_
 refine ysg ⟨L89 ++ [(103, vb (p2.Op_ == 4))], [B3, B4, B5, B6, B7], H⟩ ?_
 refine As (α := (Int × T_ref04_Cpu × T_ref03_Mem)) (fun x => (⟨L81 ++ [(12, vu x.1)], [(3, (Al x.2.1)), (4, (Ac x.2.2)), B6, B7], H⟩ : St)) (fun x => Nq x.1 x.2.1 x.2.2 = some (ra, rb)) ?_ ?_
 rintro ⟨j36, j37, j38⟩ hF
 replace hF : Nq j36 j37 j38 = some (ra, rb) := hF
 unfold Nq at hF
 exact ⟨(j36, j37, j38), hF, (by kernel_rfl)⟩
 rcases Ae hF with ⟨h39, hF⟩ | ⟨h39, hF⟩
 refine yT h39 ⟨L87, [B3, B4, B5, B6, B7], H⟩ ?_
 obtain ⟨v40, h41, hF⟩ := Ab hF
 obtain ⟨v42, h43, hF⟩ := Ab hF
 let B47 : EB := (3, (arM .u32 16 v42 ++ [(.top, .int .u32 p0.PC_), (.top, .int .u32 p0.EPC_), (.top, .int .u32 p0.Cause_), (.top, .int .i64 p0.State_), (.top, .int .i64 p0.Why_), (.top, .int .i64 p0.Steps_), (.top, .int .i64 p0.Taken_), ((.own 1), .sl 2 (List.map Ad p0.Out_)), (.top, .int .u32 p0.Entry_), (.top, .int .u32 p0.Vector_), (.top, .int .u32 p0.Guard_), (.top, .int .u32 p0.Limit_), ((.own 0), .sl 1 (List.map (eI .i32) p0.Input_))]))
 refine Aj ⟨L91, [B47, B4, B6, B7], H⟩ ?_ ?_
 refine yr 6 ⟨L105, [B3, B4, B5, B6, B7], H⟩ ?_
 refine Ai ⟨L105 ++ [E48], [B3, B4, B5, B6, B7], H⟩ (Jv (X := X) (⟨L105, [B3, B4, B5, B6, B7], H⟩ : St) 46 35 16 h41 3 0 (some 111) (by kernel_rfl) (by kernel_rfl) (by kernel_rfl) (by kernel_rfl)) ?_
 refine Ai ⟨L105 ++ [E48], [B47, B4, B5, B6, B7], H⟩ (Ot (X := X) (⟨L105 ++ [E48], [B3, B4, B5, B6, B7], H⟩ : St) 35 16 h43 3 0 (Al p0) (fun q => .int .u32 q) ⟨true, []⟩ (by kernel_rfl) (by kernel_rfl) (by kernel_rfl) (by kernel_rfl) (by kernel_rfl) (fun _ => rfl) (by kernel_rfl)) ?_
 exact ye
 exact ⟨((IntKind.wrap .u32 (p0.PC_ + 4)), (T_ref04_Cpu.mk v42 p0.PC_ p0.EPC_ p0.Cause_ p0.State_ p0.Why_ p0.Steps_ p0.Taken_ p0.Out_ p0.Entry_ p0.Vector_ p0.Guard_ p0.Limit_ p0.Input_), p1), hF, (by kernel_rfl)⟩
 refine yF h39 ⟨L89, [B3, B4, B5, B6, B7], H⟩ ?_
 refine ysg ⟨L89 ++ [(112, vb (p2.Op_ == 5))], [B3, B4, B5, B6, B7], H⟩ ?_
 refine As (α := (Int × T_ref04_Cpu × T_ref03_Mem)) (fun x => (⟨L81 ++ [(12, vu x.1)], [(3, (Al x.2.1)), (4, (Ac x.2.2)), B6, B7], H⟩ : St)) (fun x => Nr x.1 x.2.1 x.2.2 = some (ra, rb)) ?_ ?_
 rintro ⟨j44, j45, j46⟩ hF
 replace hF : Nr j44 j45 j46 = some (ra, rb) := hF
 unfold Nr at hF
 exact ⟨(j44, j45, j46), hF, (by kernel_rfl)⟩
 rcases Ae hF with ⟨h47, hF⟩ | ⟨h47, hF⟩
 refine yT h47 ⟨L87, [B3, B4, B5, B6, B7], H⟩ ?_
 obtain ⟨v48, h49, hF⟩ := Ab hF
 obtain ⟨v50, h51, hF⟩ := Ab hF
 let B49 : EB := (3, (arM .u32 16 v50 ++ [(.top, .int .u32 p0.PC_), (.top, .int .u32 p0.EPC_), (.top, .int .u32 p0.Cause_), (.top, .int .i64 p0.State_), (.top, .int .i64 p0.Why_), (.top, .int .i64 p0.Steps_), (.top, .int .i64 p0.Taken_), ((.own 1), .sl 2 (List.map Ad p0.Out_)), (.top, .int .u32 p0.Entry_), (.top, .int .u32 p0.Vector_), (.top, .int .u32 p0.Guard_), (.top, .int .u32 p0.Limit_), ((.own 0), .sl 1 (List.map (eI .i32) p0.Input_))]))
 refine Aj ⟨L91, [B49, B4, B6, B7], H⟩ ?_ ?_
 refine yr 6 ⟨L106, [B3, B4, B5, B6, B7], H⟩ ?_
 refine Ai ⟨L106 ++ [E50], [B3, B4, B5, B6, B7], H⟩ (Jv (X := X) (⟨L106, [B3, B4, B5, B6, B7], H⟩ : St) 46 35 16 h49 3 0 (some 120) (by kernel_rfl) (by kernel_rfl) (by kernel_rfl) (by kernel_rfl)) ?_
 refine Ai ⟨L106 ++ [E50], [B49, B4, B5, B6, B7], H⟩ (Ot (X := X) (⟨L106 ++ [E50], [B3, B4, B5, B6, B7], H⟩ : St) 35 16 h51 3 0 (Al p0) (fun q => .int .u32 q) ⟨true, []⟩ (by kernel_rfl) (by kernel_rfl) (by kernel_rfl) (by kernel_rfl) (by kernel_rfl) (fun _ => rfl) (by kernel_rfl)) ?_
 exact ye
 exact ⟨((IntKind.wrap .u32 (p0.PC_ + 4)), (T_ref04_Cpu.mk v50 p0.PC_ p0.EPC_ p0.Cause_ p0.State_ p0.Why_ p0.Steps_ p0.Taken_ p0.Out_ p0.Entry_ p0.Vector_ p0.Guard_ p0.Limit_ p0.Input_), p1), hF, (by kernel_rfl)⟩
 refine yF h47 ⟨L89, [B3, B4, B5, B6, B7], H⟩ ?_
 refine ysg ⟨L89 ++ [(121, vb (p2.Op_ == 34))], [B3, B4, B5, B6, B7], H⟩ ?_
 refine As (α := (Int × T_ref04_Cpu × T_ref03_Mem)) (fun x => (⟨L81 ++ [(12, vu x.1)], [(3, (Al x.2.1)), (4, (Ac x.2.2)), B6, B7], H⟩ : St)) (fun x => Ns x.1 x.2.1 x.2.2 = some (ra, rb)) ?_ ?_
 rintro ⟨j52, j53, j54⟩ hF
 replace hF : Ns j52 j53 j54 = some (ra, rb) := hF
 unfold Ns at hF
 exact ⟨(j52, j53, j54), hF, (by kernel_rfl)⟩
 rcases Ae hF with ⟨h55, hF⟩ | ⟨h55, hF⟩
 refine yT h55 ⟨L87, [B3, B4, B5, B6, B7], H⟩ ?_
 obtain ⟨v56, h57, hF⟩ := Ab hF
 obtain ⟨v58, h59, hF⟩ := Ab hF
 let B51 : EB := (3, (arM .u32 16 v58 ++ [(.top, .int .u32 p0.PC_), (.top, .int .u32 p0.EPC_), (.top, .int .u32 p0.Cause_), (.top, .int .i64 p0.State_), (.top, .int .i64 p0.Why_), (.top, .int .i64 p0.Steps_), (.top, .int .i64 p0.Taken_), ((.own 1), .sl 2 (List.map Ad p0.Out_)), (.top, .int .u32 p0.Entry_), (.top, .int .u32 p0.Vector_), (.top, .int .u32 p0.Guard_), (.top, .int .u32 p0.Limit_), ((.own 0), .sl 1 (List.map (eI .i32) p0.Input_))]))
 refine Aj ⟨L91, [B51, B4, B6, B7], H⟩ ?_ ?_
 refine yr 6 ⟨L107, [B3, B4, B5, B6, B7], H⟩ ?_
 refine Ai ⟨L107 ++ [E52], [B3, B4, B5, B6, B7], H⟩ (Jv (X := X) (⟨L107, [B3, B4, B5, B6, B7], H⟩ : St) 46 35 16 h57 3 0 (some 129) (by kernel_rfl) (by kernel_rfl) (by kernel_rfl) (by kernel_rfl)) ?_
 refine Ai ⟨L107 ++ [E52], [B51, B4, B5, B6, B7], H⟩ (Ot (X := X) (⟨L107 ++ [E52], [B3, B4, B5, B6, B7], H⟩ : St) 35 16 h59 3 0 (Al p0) (fun q => .int .u32 q) ⟨true, []⟩ (by kernel_rfl) (by kernel_rfl) (by kernel_rfl) (by kernel_rfl) (by kernel_rfl) (fun _ => rfl) (by kernel_rfl)) ?_
 exact ye
 exact ⟨((IntKind.wrap .u32 (p0.PC_ + 4)), (T_ref04_Cpu.mk v58 p0.PC_ p0.EPC_ p0.Cause_ p0.State_ p0.Why_ p0.Steps_ p0.Taken_ p0.Out_ p0.Entry_ p0.Vector_ p0.Guard_ p0.Limit_ p0.Input_), p1), hF, (by kernel_rfl)⟩
 refine yF h55 ⟨L89, [B3, B4, B5, B6, B7], H⟩ ?_
 refine ysg ⟨L89 ++ [(130, vb (p2.Op_ == 18))], [B3, B4, B5, B6, B7], H⟩ ?_
 refine As (α := (Int × T_ref04_Cpu × T_ref03_Mem)) (fun x => (⟨L81 ++ [(12, vu x.1)], [(3, (Al x.2.1)), (4, (Ac x.2.2)), B6, B7], H⟩ : St)) (fun x => Nt x.1 x.2.1 x.2.2 = some (ra, rb)) ?_ ?_
 rintro ⟨j60, j61, j62⟩ hF
 replace hF : Nt j60 j61 j62 = some (ra, rb) := hF
 unfold Nt at hF
 exact ⟨(j60, j61, j62), hF, (by kernel_rfl)⟩
 rcases Ae hF with ⟨h63, hF⟩ | ⟨h63, hF⟩
 refine yT h63 ⟨L87, [B3, B4, B5, B6, B7], H⟩ ?_
 refine Ag ?_
 obtain ⟨r64, r65, c66, hF⟩ := Be hF
 let E53 : EN := (17, vi r65)
 let E54 : EN := (137, .tup [vu r64, vi r65])
 let E57 : EN := (143, vi r65)
 let L96 : List EN := L81 ++ [E53]
 let L99 : List EN := L80 ++ [E15, (16, vu r64)]
 let L111 : List EN := L99 ++ [(146, vl 5 1), (147, vi p2.A_), (148, vu r64), (149, vl 3 0)]
 refine Aj ⟨L99 ++ [E53], [B3, B4, B5, B6, B7], H⟩ ?_ ?_
 refine yr 4 ⟨L87 ++ L112, [B3, B4, B5, B6, B7], H⟩ ?_
 refine Ai ⟨L87 ++ L112 ++ [E54], [B3, B4, B5, B6, B7], H⟩ (yc (some 137) true false (⟨L87 ++ L112, [B3, B4, B5, B6, B7], H⟩ : St) (Pk H c66)) ?_
 refine yr 5 ⟨L87 ++ [(16, vu r64), E53, (132, .tup [vu r64, vi r65])] ++ L112 ++ [E54, (138, vu r64), (139, vi r65)], [B3, B4, B5, B6, B7], H⟩ ?_
 exact ye
 refine Ag ?_
 refine ysg ⟨L99 ++ [E53, (141, vb (r65 != 0))], [B3, B4, B5, B6, B7], H⟩ ?_
 rcases Ae hF with ⟨h67, hF⟩ | ⟨h67, hF⟩
 refine yT h67 ⟨L96, [B3, B4, B6, B7], H⟩ ?_
 refine Ag ?_
 obtain ⟨r68, c69, hF⟩ := Ab hF
 let B55 : EB := (6, (Ak r68))
 let L118 : List EN := L96 ++ [E59, E57, (144, .agg (Ak r68)), E58]
 refine Bs (.take 0 (.take 1 (.take 3 (.last 2 (.last 4 (.last 5 .done)))))) (by kernel_rfl) (⟨L79, [B55, B20], H⟩ : St) ?_ ?_
 refine ydk 3 ⟨L96 ++ [E56, E57, E58], [B22, B4, B6, B7], H⟩ ?_
 refine Br ⟨L118, [B22, B4, B6, B7], H⟩ (yc (some 144) true true (⟨L96 ++ [E59, E57, E58], [B22, B4, B6, B7], H⟩ : St) (Hy H c69)) ?_
 refine ydl ⟨L118, [B22, B4, B55, B7], H⟩ ?_
 refine ydl ⟨L118, [B22, B4, B55, B20], H⟩ ?_
 exact yde
 refine Au ?_
 obtain ⟨e0, e1⟩ := Ar hF
 subst e0
 subst e1
 exact yp (.tup [.agg (Ak r68), .agg (Ac p1)])
 refine yF h67 ⟨L99, [B3, B4, B5, B6, B7], H⟩ ?_
 refine Ao ?_
 obtain ⟨v70, h71, hF⟩ := Ab hF
 obtain ⟨v72, h73, hF⟩ := Ab hF
 let B60 : EB := (3, (arM .u32 16 v72 ++ [(.top, .int .u32 p0.PC_), (.top, .int .u32 p0.EPC_), (.top, .int .u32 p0.Cause_), (.top, .int .i64 p0.State_), (.top, .int .i64 p0.Why_), (.top, .int .i64 p0.Steps_), (.top, .int .i64 p0.Taken_), ((.own 1), .sl 2 (List.map Ad p0.Out_)), (.top, .int .u32 p0.Entry_), (.top, .int .u32 p0.Vector_), (.top, .int .u32 p0.Guard_), (.top, .int .u32 p0.Limit_), ((.own 0), .sl 1 (List.map (eI .i32) p0.Input_))]))
 refine Aj ⟨L91, [B60, B4, B6, B7], H⟩ ?_ ?_
 refine yr 4 ⟨L111, [B3, B4, B5, B6, B7], H⟩ ?_
 refine Ai ⟨L111 ++ [E61], [B3, B4, B5, B6, B7], H⟩ (Jv (X := X) (⟨L111, [B3, B4, B5, B6, B7], H⟩ : St) 46 35 16 h71 3 0 (some 150) (by kernel_rfl) (by kernel_rfl) (by kernel_rfl) (by kernel_rfl)) ?_
 refine Ai ⟨L111 ++ [E61], [B60, B4, B5, B6, B7], H⟩ (Ot (X := X) (⟨L111 ++ [E61], [B3, B4, B5, B6, B7], H⟩ : St) 35 16 h73 3 0 (Al p0) (fun q => .int .u32 q) ⟨true, []⟩ (by kernel_rfl) (by kernel_rfl) (by kernel_rfl) (by kernel_rfl) (by kernel_rfl) (fun _ => rfl) (by kernel_rfl)) ?_
 exact ye
 exact ⟨((IntKind.wrap .u32 (p0.PC_ + 4)), (T_ref04_Cpu.mk v72 p0.PC_ p0.EPC_ p0.Cause_ p0.State_ p0.Why_ p0.Steps_ p0.Taken_ p0.Out_ p0.Entry_ p0.Vector_ p0.Guard_ p0.Limit_ p0.Input_), p1), hF, (by kernel_rfl)⟩
 refine yF h63 ⟨L89, [B3, B4, B5, B6, B7], H⟩ ?_
 refine ysg ⟨L89 ++ [(151, vb (p2.Op_ == 19))], [B3, B4, B5, B6, B7], H⟩ ?_
 refine As (α := (Int × T_ref04_Cpu × T_ref03_Mem)) (fun x => (⟨L81 ++ [(12, vu x.1)], [(3, (Al x.2.1)), (4, (Ac x.2.2)), B6, B7], H⟩ : St)) (fun x => Nu x.1 x.2.1 x.2.2 = some (ra, rb)) ?_ ?_
 rintro ⟨j74, j75, j76⟩ hF
 replace hF : Nu j74 j75 j76 = some (ra, rb) := hF
 unfold Nu at hF
 exact ⟨(j74, j75, j76), hF, (by kernel_rfl)⟩
 rcases Ae hF with ⟨h77, hF⟩ | ⟨h77, hF⟩
 refine yT h77 ⟨L101 ++ L85, [B3, B4, B6, B7], H⟩ ?_
 refine Ag ?_
 obtain ⟨r78, r79, c80, hF⟩ := Be hF
 let E63 : EN := (19, vi r79)
 let B64 : EB := (18, (Ac r78))
 let E65 : EN := (159, .tup [.agg (Ac r78), vi r79])
 let E68 : EN := (165, vi r79)
 let L97 : List EN := L81 ++ [E63]
 refine Aj ⟨L91 ++ [E62, E63], [B3, B4, B6, B7, B64], H⟩ ?_ ?_
 refine yr 5 ⟨L101 ++ L85 ++ L114, [B3, B4, B6, B7], H⟩ ?_
 refine Ai ⟨L101 ++ L85 ++ L114 ++ [E65], [B3, B4, B6, B7], H⟩ (yc (some 159) true false (⟨L101 ++ L85 ++ L114, [B3, B4, B6, B7], H⟩ : St) (Zb H c80)) ?_
 refine yr 6 ⟨L101 ++ L85 ++ [E62, E63, (153, .tup [.agg (Ac r78), vi r79])] ++ L114 ++ [E65, (160, .agg (Ac r78)), (161, vi r79)], [B3, B4, B6, B7, B64], H⟩ ?_
 exact ye
 refine Ag ?_
 refine ysg ⟨L91 ++ [E62, E63, (163, vb (r79 != 0))], [B3, B4, B6, B7, B64], H⟩ ?_
 rcases Ae hF with ⟨h81, hF⟩ | ⟨h81, hF⟩
 refine yT h81 ⟨L97, [B3, B4, B6, B7], H⟩ ?_
 refine Ag ?_
 obtain ⟨r82, c83, hF⟩ := Ab hF
 let B66 : EB := (6, (Ak r82))
 let L119 : List EN := L97 ++ [E70, E68, (166, .agg (Ak r82)), E69]
 refine Bs (.take 0 (.take 1 (.take 3 (.last 2 (.last 4 (.last 5 .done)))))) (by kernel_rfl) (⟨L79, [B66, B20], H⟩ : St) ?_ ?_
 refine ydk 3 ⟨L97 ++ [E67, E68, E69], [B22, B4, B6, B7], H⟩ ?_
 refine Br ⟨L119, [B22, B4, B6, B7], H⟩ (yc (some 166) true true (⟨L97 ++ [E70, E68, E69], [B22, B4, B6, B7], H⟩ : St) (Hy H c83)) ?_
 refine ydl ⟨L119, [B22, B4, B66, B7], H⟩ ?_
 refine ydl ⟨L119, [B22, B4, B66, B20], H⟩ ?_
 exact yde
 refine Au ?_
 obtain ⟨e0, e1⟩ := Ar hF
 subst e0
 subst e1
 exact yp (.tup [.agg (Ak r82), .agg (Ac p1)])
 refine yF h81 ⟨L91 ++ [E62], [B3, B4, B6, B7, B64], H⟩ ?_
 refine Ao ?_
 refine yg ⟨L91, [B3, (4, (Ac r78)), B6, B7], H⟩ ?_
 exact ⟨((IntKind.wrap .u32 (p0.PC_ + 4)), p0, r78), hF, (by kernel_rfl)⟩
 refine yF h77 ⟨L113, [B3, B4, B5, B6, B7], H⟩ ?_
 refine ysg ⟨L113 ++ [(169, vb (p2.Op_ == 20))], [B3, B4, B5, B6, B7], H⟩ ?_
 refine As (α := (Int × T_ref04_Cpu)) (fun x => (⟨L81 ++ [(12, vu x.1)], [(3, (Al x.2)), B4, B6, B7], H⟩ : St)) (fun x => Nv p1 x.1 x.2 = some (ra, rb)) ?_ ?_
 rintro ⟨j84, j85⟩ hF
 replace hF : Nv p1 j84 j85 = some (ra, rb) := hF
 unfold Nv at hF
 exact ⟨(j84, j85, p1), hF, (by kernel_rfl)⟩
 rcases Ae hF with ⟨h86, hF⟩ | ⟨h86, hF⟩
 refine yT h86 ⟨L101 ++ L83, [B3, B4, B6, B7], H⟩ ?_
 refine ysg ⟨L81 ++ L83 ++ [(172, vb (v1 == 0))], [B3, B4, B6, B7], H⟩ ?_
 refine As (α := (Int)) (fun x => (⟨L81 ++ [(12, vu x)], [B3, B4, B6, B7], H⟩ : St)) (fun x => Nw p1 p0 x = some (ra, rb)) ?_ ?_
 rintro j87 hF
 replace hF : Nw p1 p0 j87 = some (ra, rb) := hF
 unfold Nw at hF
 exact ⟨(j87, p0), hF, (by kernel_rfl)⟩
 rcases Ae hF with ⟨h88, hF⟩ | ⟨h88, hF⟩
 refine yT h88 ⟨L81 ++ [E71], [B3, B4, B6, B7], H⟩ ?_
 refine yg ⟨L102, [B3, B4, B6, B7], H⟩ ?_
 exact ⟨(IntKind.wrap .u32 ((IntKind.wrap .u32 (p0.PC_ + 4)) + (IntKind.wrap .u32 (4 * (IntKind.wrap .u32 p2.Imm_))))), hF, (by kernel_rfl)⟩
 refine yF h88 ⟨L91, [B3, B4, B6, B7], H⟩ ?_
 refine Ao ?_
 exact ⟨(IntKind.wrap .u32 (p0.PC_ + 4)), hF, (by kernel_rfl)⟩
 refine yF h86 ⟨L113, [B3, B4, B5, B6, B7], H⟩ ?_
 refine ysg ⟨L113 ++ [(174, vb (p2.Op_ == 21))], [B3, B4, B5, B6, B7], H⟩ ?_
 refine As (α := (Int × T_ref04_Cpu)) (fun x => (⟨L81 ++ [(12, vu x.1)], [(3, (Al x.2)), B4, B6, B7], H⟩ : St)) (fun x => Mc p1 x.1 x.2 = some (ra, rb)) ?_ ?_
 rintro ⟨j89, j90⟩ hF
 replace hF : Mc p1 j89 j90 = some (ra, rb) := hF
 unfold Mc at hF
 exact ⟨(j89, j90), hF, (by kernel_rfl)⟩
 rcases Ae hF with ⟨h91, hF⟩ | ⟨h91, hF⟩
 refine yT h91 ⟨L101 ++ L83, [B3, B4, B6, B7], H⟩ ?_
 refine ysg ⟨L81 ++ L83 ++ [(177, vb (v1 != 0))], [B3, B4, B6, B7], H⟩ ?_
 refine As (α := (Int)) (fun x => (⟨L81 ++ [(12, vu x)], [B3, B4, B6, B7], H⟩ : St)) (fun x => Me p1 p0 x = some (ra, rb)) ?_ ?_
 rintro j92 hF
 replace hF : Me p1 p0 j92 = some (ra, rb) := hF
 unfold Me at hF
 exact ⟨(j92, p0), hF, (by kernel_rfl)⟩
 rcases Ae hF with ⟨h93, hF⟩ | ⟨h93, hF⟩
 refine yT h93 ⟨L81 ++ [E71], [B3, B4, B6, B7], H⟩ ?_
 refine yg ⟨L102, [B3, B4, B6, B7], H⟩ ?_
 exact ⟨(IntKind.wrap .u32 ((IntKind.wrap .u32 (p0.PC_ + 4)) + (IntKind.wrap .u32 (4 * (IntKind.wrap .u32 p2.Imm_))))), hF, (by kernel_rfl)⟩
 refine yF h93 ⟨L91, [B3, B4, B6, B7], H⟩ ?_
 refine Ao ?_
 exact ⟨(IntKind.wrap .u32 (p0.PC_ + 4)), hF, (by kernel_rfl)⟩
 refine yF h91 ⟨L116, [B3, B4, B5, B6, B7], H⟩ ?_
 refine ysg ⟨L116 ++ [(179, vb (p2.Op_ == 22))], [B3, B4, B5, B6, B7], H⟩ ?_
 refine As (α := (T_ref04_Cpu)) (fun x => (⟨L102, [(3, (Al x)), B4, B6, B7], H⟩ : St)) (fun x => Mf p1 p0 p2 x = some (ra, rb)) ?_ ?_
 rintro j94 hF
 replace hF : Mf p1 p0 p2 j94 = some (ra, rb) := hF
 unfold Mf at hF
 exact ⟨((IntKind.wrap .u32 ((IntKind.wrap .u32 (p0.PC_ + 4)) + (IntKind.wrap .u32 (4 * (IntKind.wrap .u32 p2.Imm_))))), j94), hF, (by kernel_rfl)⟩
 rcases Ae hF with ⟨h95, hF⟩ | ⟨h95, hF⟩
 refine yT h95 ⟨L81 ++ [E71], [B3, B4, B6, B7], H⟩ ?_
 refine yg ⟨L102, [B3, B4, B6, B7], H⟩ ?_
 exact ⟨p0, hF, (by kernel_rfl)⟩
 refine yF h95 ⟨L116, [B3, B4, B5, B6, B7], H⟩ ?_
 refine ysg ⟨L82 ++ [E14, E71, (182, vb (p2.Op_ == 23))], [B3, B4, B5, B6, B7], H⟩ ?_
 rcases Ae hF with ⟨h96, hF⟩ | ⟨h96, hF⟩
 refine yT h96 ⟨L81 ++ [E14, E71], [B3, B4, B6, B7], H⟩ ?_
 refine ysg ⟨L81 ++ [E71], [B72, B4, B6, B7], H⟩ ?_
 refine yg ⟨L102, [B72, B4, B6, B7], H⟩ ?_
 exact ⟨(T_ref04_Cpu.mk (Ij [(p0.R_.g 0), (p0.R_.g 1), (p0.R_.g 2), (p0.R_.g 3), (p0.R_.g 4), (p0.R_.g 5), (p0.R_.g 6), (p0.R_.g 7), (p0.R_.g 8), (p0.R_.g 9), (p0.R_.g 10), (p0.R_.g 11), (p0.R_.g 12), (p0.R_.g 13), (IntKind.wrap .u32 (p0.PC_ + 4)), (p0.R_.g 15)] : Arr 16 Int) p0.PC_ p0.EPC_ p0.Cause_ p0.State_ p0.Why_ p0.Steps_ p0.Taken_ p0.Out_ p0.Entry_ p0.Vector_ p0.Guard_ p0.Limit_ p0.Input_), hF, (by kernel_rfl)⟩
 refine yF h96 ⟨L82, [B3, B4, B5, B6, B7], H⟩ ?_
 refine Ag ?_
 obtain ⟨r97, c98, hF⟩ := Ab hF
 let B73 : EB := (6, (Ak r97))
 let L117 : List EN := L82 ++ [E78, E75, E76, (81, .agg (Ak r97)), E77]
 refine Bs (.take 0 (.take 1 (.take 2 (.take 4 (.last 3 (.last 5 (.last 6 .done))))))) (by kernel_rfl) (⟨L79, [B73, B20], H⟩ : St) ?_ ?_
 refine ydk 4 ⟨L82 ++ [E74, E75, E76, E77], [B22, B4, B5, B6, B7], H⟩ ?_
 refine Br ⟨L117, [B22, B4, B5, B6, B7], H⟩ (yc (some 81) true true (⟨L82 ++ [E78, E75, E76, E77], [B22, B4, B5, B6, B7], H⟩ : St) (Wj H c98)) ?_
 refine ydl ⟨L117, [B22, B4, B5, B73, B7], H⟩ ?_
 refine ydl ⟨L117, [B22, B4, B5, B73, B20], H⟩ ?_
 exact yde
 refine Au ?_
 obtain ⟨e0, e1⟩ := Ar hF
 subst e0
 subst e1
 exact yp (.tup [.agg (Ak r97), .agg (Ac p1)])
noncomputable def Fy  (p0 : T_ref04_Cpu) (p1 : T_ref03_Mem) : Option (T_ref04_Cpu × T_ref03_Mem) :=
  if (p0.State_ != 0) = true then (some (p0, p1))
  else (Cc (Gn p1 p0.PC_) fun r2 r3 =>
  if (r3 != 0) = true then (Af (Gp (T_ref04_Cpu.mk p0.R_ p0.PC_ p0.EPC_ p0.Cause_ p0.State_ p0.Why_ (IntKind.wrap .i64 (p0.Steps_ + 1)) p0.Taken_ p0.Out_ p0.Entry_ p0.Vector_ p0.Guard_ p0.Limit_ p0.Input_) r3) fun r6 =>
  some (r6, p1))
  else (Cc (Gq r2) fun r8 r9 =>
  if (r9 != 0) = true then (Af (Gp (T_ref04_Cpu.mk p0.R_ p0.PC_ p0.EPC_ p0.Cause_ p0.State_ p0.Why_ (IntKind.wrap .i64 (p0.Steps_ + 1)) p0.Taken_ p0.Out_ p0.Entry_ p0.Vector_ p0.Guard_ p0.Limit_ p0.Input_) r9) fun r12 =>
  some (r12, p1))
  else (Cc (Ck (T_ref04_Cpu.mk p0.R_ p0.PC_ p0.EPC_ p0.Cause_ p0.State_ p0.Why_ (IntKind.wrap .i64 (p0.Steps_ + 1)) p0.Taken_ p0.Out_ p0.Entry_ p0.Vector_ p0.Guard_ p0.Limit_ p0.Input_) p1 r8) fun r14 r15 =>
  some (r14, r15))))
theorem Zs (H : Ah) {p0 : T_ref04_Cpu} {p1 : T_ref03_Mem} {ra : T_ref04_Cpu} {rb : T_ref03_Mem} (hF : Fy p0 p1 = some (ra, rb)) : evS X 58 [.agg (Al p0), .agg (Ac p1)] H = some (.tup [.agg (Ak ra), .agg (Ac rb)], H) := by
 let B1 : EB := (2, (Al p0))
 let B2 : EB := (3, (Ac p1))
 let B3 : EB := (4, (List.replicate 19 (.top, .int .u32 0) ++ List.replicate 4 (.top, .int .i64 0) ++ [((.own 1), .sl 2 (List.map Ad ([] : List T_api_Event)))] ++ List.replicate 4 (.top, .int .u32 0) ++ [((.own 1), .sl 1 (List.map (eI .i32) ([] : List Int)))]))
 let B4 : EB := (5, (List.replicate 5 (.top, .int .u32 0) ++ [((.own 1), .sl 1 (List.map (eI .u32) ([] : List Int)))]))
 let B5 : EB := (4, (Al p0))
 let B6 : EB := (5, (Ac p1))
 let E7 : EN := (12, .agg (Al p0))
 let B8 : EB := (2, (arM .u32 16 p0.R_ ++ [(.top, .int .u32 p0.PC_), (.top, .int .u32 p0.EPC_), (.top, .int .u32 p0.Cause_), (.top, .int .i64 p0.State_), (.top, .int .i64 p0.Why_), (.top, .int .i64 p0.Steps_), (.top, .int .i64 p0.Taken_), (.top, .junk), (.top, .int .u32 p0.Entry_), (.top, .int .u32 p0.Vector_), (.top, .int .u32 p0.Guard_), (.top, .int .u32 p0.Limit_), ((.own 0), .sl 1 (List.map (eI .i32) p0.Input_))]))
 let E9 : EN := (13, .agg (Ac p1))
 let E10 : EN := (12, .agg (arM .u32 16 p0.R_ ++ [(.top, .int .u32 p0.PC_), (.top, .int .u32 p0.EPC_), (.top, .int .u32 p0.Cause_), (.top, .int .i64 p0.State_), (.top, .int .i64 p0.Why_), (.top, .int .i64 p0.Steps_), (.top, .int .i64 p0.Taken_), (.top, .junk), (.top, .int .u32 p0.Entry_), (.top, .int .u32 p0.Vector_), (.top, .int .u32 p0.Guard_), (.top, .int .u32 p0.Limit_), ((.own 0), .sl 1 (List.map (eI .i32) p0.Input_))]))
 let B11 : EB := (2, (arM .u32 16 p0.R_ ++ [(.top, .int .u32 p0.PC_), (.top, .int .u32 p0.EPC_), (.top, .int .u32 p0.Cause_), (.top, .int .i64 p0.State_), (.top, .int .i64 p0.Why_), (.top, .int .i64 (IntKind.wrap .i64 (p0.Steps_ + 1))), (.top, .int .i64 p0.Taken_), ((.own 1), .sl 2 (List.map Ad p0.Out_)), (.top, .int .u32 p0.Entry_), (.top, .int .u32 p0.Vector_), (.top, .int .u32 p0.Guard_), (.top, .int .u32 p0.Limit_), ((.own 0), .sl 1 (List.map (eI .i32) p0.Input_))]))
 let E14 : EN := (27, .agg (arM .u32 16 p0.R_ ++ [(.top, .int .u32 p0.PC_), (.top, .int .u32 p0.EPC_), (.top, .int .u32 p0.Cause_), (.top, .int .i64 p0.State_), (.top, .int .i64 p0.Why_), (.top, .int .i64 (IntKind.wrap .i64 (p0.Steps_ + 1))), (.top, .int .i64 p0.Taken_), ((.own 1), .sl 2 (List.map Ad p0.Out_)), (.top, .int .u32 p0.Entry_), (.top, .int .u32 p0.Vector_), (.top, .int .u32 p0.Guard_), (.top, .int .u32 p0.Limit_), ((.own 0), .sl 1 (List.map (eI .i32) p0.Input_))]))
 let B15 : EB := (2, (arM .u32 16 p0.R_ ++ [(.top, .int .u32 p0.PC_), (.top, .int .u32 p0.EPC_), (.top, .int .u32 p0.Cause_), (.top, .int .i64 p0.State_), (.top, .int .i64 p0.Why_), (.top, .int .i64 (IntKind.wrap .i64 (p0.Steps_ + 1))), (.top, .int .i64 p0.Taken_), (.top, .junk), (.top, .int .u32 p0.Entry_), (.top, .int .u32 p0.Vector_), (.top, .int .u32 p0.Guard_), (.top, .int .u32 p0.Limit_), ((.own 0), .sl 1 (List.map (eI .i32) p0.Input_))]))
 let E17 : EN := (30, .agg (Ac p1))
 let E18 : EN := (27, .agg (arM .u32 16 p0.R_ ++ [(.top, .int .u32 p0.PC_), (.top, .int .u32 p0.EPC_), (.top, .int .u32 p0.Cause_), (.top, .int .i64 p0.State_), (.top, .int .i64 p0.Why_), (.top, .int .i64 (IntKind.wrap .i64 (p0.Steps_ + 1))), (.top, .int .i64 p0.Taken_), (.top, .junk), (.top, .int .u32 p0.Entry_), (.top, .int .u32 p0.Vector_), (.top, .int .u32 p0.Guard_), (.top, .int .u32 p0.Limit_), ((.own 0), .sl 1 (List.map (eI .i32) p0.Input_))]))
 let E19 : EN := (8, vl 8 0)
 let E24 : EN := (38, .agg (arM .u32 16 p0.R_ ++ [(.top, .int .u32 p0.PC_), (.top, .int .u32 p0.EPC_), (.top, .int .u32 p0.Cause_), (.top, .int .i64 p0.State_), (.top, .int .i64 p0.Why_), (.top, .int .i64 (IntKind.wrap .i64 (p0.Steps_ + 1))), (.top, .int .i64 p0.Taken_), ((.own 1), .sl 2 (List.map Ad p0.Out_)), (.top, .int .u32 p0.Entry_), (.top, .int .u32 p0.Vector_), (.top, .int .u32 p0.Guard_), (.top, .int .u32 p0.Limit_), ((.own 0), .sl 1 (List.map (eI .i32) p0.Input_))]))
 let E26 : EN := (41, .agg (Ac p1))
 let E27 : EN := (38, .agg (arM .u32 16 p0.R_ ++ [(.top, .int .u32 p0.PC_), (.top, .int .u32 p0.EPC_), (.top, .int .u32 p0.Cause_), (.top, .int .i64 p0.State_), (.top, .int .i64 p0.Why_), (.top, .int .i64 (IntKind.wrap .i64 (p0.Steps_ + 1))), (.top, .int .i64 p0.Taken_), (.top, .junk), (.top, .int .u32 p0.Entry_), (.top, .int .u32 p0.Vector_), (.top, .int .u32 p0.Guard_), (.top, .int .u32 p0.Limit_), ((.own 0), .sl 1 (List.map (eI .i32) p0.Input_))]))
 let E28 : EN := (43, .agg (Ac p1))
 let L31 : List EN := [(4, vl 4 0), (5, vl 5 0)]
 let L32 : List EN := [(2, vl 2 0), (3, vl 3 0)] ++ L31
 let L36 : List EN := [(19, .agg (Ac p1)), (20, vl 2 16), (21, vu p0.PC_)]
 refine yf Try.func58 true ⟨[(0, .agg (Al p0)), (1, .agg (Ac p1))], [], H⟩ ?_
 unfold Fy at hF
 refine ysg ⟨L32, [B1, B2, B3, B4], H⟩ ?_
 refine Ag ?_
 refine ysg ⟨L32 ++ [(11, vb (p0.State_ != 0))], [B1, B2, B3, B4], H⟩ ?_
 rcases Ae hF with ⟨h1, hF⟩ | ⟨h1, hF⟩
 refine yT h1 ⟨L32, [B1, B2, B3, B4], H⟩ ?_
 refine Ag ?_
 refine Bs (.take 0 (.take 1 (.last 2 (.last 3 .done)))) (by kernel_rfl) (⟨L31, [B5, B6], H⟩ : St) ?_ ?_
 refine ydk 2 ⟨L32 ++ [E7, E9], [B8, B2, B3, B4], H⟩ ?_
 refine ydl ⟨L32 ++ [E10, E9], [B8, B2, B5, B4], H⟩ ?_
 refine ydl ⟨L32 ++ [E10, E9], [B8, B2, B5, B6], H⟩ ?_
 exact yde
 refine Au ?_
 obtain ⟨e0, e1⟩ := Ar hF
 subst e0
 subst e1
 exact yp (.tup [.agg (Al p0), .agg (Ac p1)])
 refine yF h1 ⟨L32, [B1, B2, B3, B4], H⟩ ?_
 refine Ao ?_
 refine ysg ⟨L32, [B11, B2, B3, B4], H⟩ ?_
 refine Ag ?_
 obtain ⟨r2, r3, c4, hF⟩ := Be hF
 let E12 : EN := (22, .tup [vu r2, vi r3])
 let E16 : EN := (28, vi r3)
 let E21 : EN := (32, vu r2)
 let L34 : List EN := L32 ++ [(6, vu r2)]
 let L35 : List EN := L32 ++ [(7, vi r3)]
 refine Aj ⟨L34 ++ [(7, vi r3)], [B11, B2, B3, B4], H⟩ ?_ ?_
 refine yr 3 ⟨L32 ++ L36, [B11, B2, B3, B4], H⟩ ?_
 refine Ai ⟨L32 ++ L36 ++ [E12], [B11, B2, B3, B4], H⟩ (yc (some 22) true false (⟨L32 ++ L36, [B11, B2, B3, B4], H⟩ : St) (Y8 H c4)) ?_
 refine yr 5 ⟨L34 ++ [(7, vi r3), (18, .tup [vu r2, vi r3])] ++ L36 ++ [E12, (23, vu r2), (24, vi r3)], [B11, B2, B3, B4], H⟩ ?_
 exact ye
 refine Ag ?_
 refine ysg ⟨L34 ++ [(7, vi r3), (26, vb (r3 != 0))], [B11, B2, B3, B4], H⟩ ?_
 rcases Ae hF with ⟨h5, hF⟩ | ⟨h5, hF⟩
 refine yT h5 ⟨L35, [B11, B2, B3, B4], H⟩ ?_
 refine Ag ?_
 obtain ⟨r6, c7, hF⟩ := Ab hF
 let B13 : EB := (4, (Ak r6))
 let L39 : List EN := L35 ++ [E18, E16, (29, .agg (Ak r6)), E17]
 refine Bs (.take 0 (.take 1 (.take 3 (.last 2 (.last 4 (.last 5 .done)))))) (by kernel_rfl) (⟨L31, [B13, B6], H⟩ : St) ?_ ?_
 refine ydk 3 ⟨L35 ++ [E14, E16, E17], [B15, B2, B3, B4], H⟩ ?_
 refine Br ⟨L39, [B15, B2, B3, B4], H⟩ (yc (some 29) true true (⟨L35 ++ [E18, E16, E17], [B15, B2, B3, B4], H⟩ : St) (Hy H c7)) ?_
 refine ydl ⟨L39, [B15, B2, B13, B4], H⟩ ?_
 refine ydl ⟨L39, [B15, B2, B13, B6], H⟩ ?_
 exact yde
 refine Au ?_
 obtain ⟨e0, e1⟩ := Ar hF
 subst e0
 subst e1
 exact yp (.tup [.agg (Ak r6), .agg (Ac p1)])
 refine yF h5 ⟨L34, [B11, B2, B3, B4], H⟩ ?_
 refine Ao ?_
 refine Ag ?_
 obtain ⟨r8, r9, c10, hF⟩ := Be hF
 let B20 : EB := (8, (Az r8))
 let E22 : EN := (33, .tup [.agg (Az r8), vi r9])
 let E25 : EN := (39, vi r9)
 let E29 : EN := (44, .agg (Az r8))
 let L33 : List EN := L32 ++ [(7, vi r9)]
 let L37 : List EN := L32 ++ [E19, (42, .agg (arM .u32 16 p0.R_ ++ [(.top, .int .u32 p0.PC_), (.top, .int .u32 p0.EPC_), (.top, .int .u32 p0.Cause_), (.top, .int .i64 p0.State_), (.top, .int .i64 p0.Why_), (.top, .int .i64 (IntKind.wrap .i64 (p0.Steps_ + 1))), (.top, .int .i64 p0.Taken_), (.top, .junk), (.top, .int .u32 p0.Entry_), (.top, .int .u32 p0.Vector_), (.top, .int .u32 p0.Guard_), (.top, .int .u32 p0.Limit_), ((.own 0), .sl 1 (List.map (eI .i32) p0.Input_))])), E28, E29]
 refine Aj ⟨L33 ++ [E19], [B11, B2, B3, B4, B20], H⟩ ?_ ?_
 refine yr 1 ⟨L34 ++ [E21], [B11, B2, B3, B4], H⟩ ?_
 refine Ai ⟨L34 ++ [E21, E22], [B11, B2, B3, B4], H⟩ (yc (some 33) true false (⟨L34 ++ [E21], [B11, B2, B3, B4], H⟩ : St) (Wg H c10)) ?_
 refine yr 6 ⟨L34 ++ [(7, vi r9), E19, (31, .tup [.agg (Az r8), vi r9]), E21, E22, (34, .agg (Az r8)), (35, vi r9)], [B11, B2, B3, B4, B20], H⟩ ?_
 exact ye
 refine Ag ?_
 refine ysg ⟨L33 ++ [E19, (37, vb (r9 != 0))], [B11, B2, B3, B4, B20], H⟩ ?_
 rcases Ae hF with ⟨h11, hF⟩ | ⟨h11, hF⟩
 refine yT h11 ⟨L33, [B11, B2, B3, B4], H⟩ ?_
 refine Ag ?_
 obtain ⟨r12, c13, hF⟩ := Ab hF
 let B23 : EB := (4, (Ak r12))
 let L38 : List EN := L33 ++ [E27, E25, (40, .agg (Ak r12)), E26]
 refine Bs (.take 0 (.take 1 (.take 3 (.last 2 (.last 4 (.last 5 .done)))))) (by kernel_rfl) (⟨L31, [B23, B6], H⟩ : St) ?_ ?_
 refine ydk 3 ⟨L33 ++ [E24, E25, E26], [B15, B2, B3, B4], H⟩ ?_
 refine Br ⟨L38, [B15, B2, B3, B4], H⟩ (yc (some 40) true true (⟨L33 ++ [E27, E25, E26], [B15, B2, B3, B4], H⟩ : St) (Hy H c13)) ?_
 refine ydl ⟨L38, [B15, B2, B23, B4], H⟩ ?_
 refine ydl ⟨L38, [B15, B2, B23, B6], H⟩ ?_
 exact yde
 refine Au ?_
 obtain ⟨e0, e1⟩ := Ar hF
 subst e0
 subst e1
 exact yp (.tup [.agg (Ak r12), .agg (Ac p1)])
 refine yF h11 ⟨L32 ++ [E19], [B11, B2, B3, B4, B20], H⟩ ?_
 refine Ao ?_
 refine Ag ?_
 obtain ⟨r14, r15, c16, hF⟩ := Be hF
 let E30 : EN := (45, .tup [.agg (Ak r14), .agg (Ac r15)])
 refine Aj ⟨L31, [(4, (Ak r14)), (5, (Ac r15))], H⟩ ?_ ?_
 refine yr 3 ⟨L32 ++ [E19, (42, .agg (arM .u32 16 p0.R_ ++ [(.top, .int .u32 p0.PC_), (.top, .int .u32 p0.EPC_), (.top, .int .u32 p0.Cause_), (.top, .int .i64 p0.State_), (.top, .int .i64 p0.Why_), (.top, .int .i64 (IntKind.wrap .i64 (p0.Steps_ + 1))), (.top, .int .i64 p0.Taken_), ((.own 1), .sl 2 (List.map Ad p0.Out_)), (.top, .int .u32 p0.Entry_), (.top, .int .u32 p0.Vector_), (.top, .int .u32 p0.Guard_), (.top, .int .u32 p0.Limit_), ((.own 0), .sl 1 (List.map (eI .i32) p0.Input_))])), E28, E29], [B15, B2, B3, B4, B20], H⟩ ?_
 refine Ai ⟨L37 ++ [E30], [B15, B2, B3, B4, B20], H⟩ (yc (some 45) true true (⟨L37, [B15, B2, B3, B4, B20], H⟩ : St) (eG H c16)) ?_
 refine yr 4 ⟨L37 ++ [E30, (46, .agg (Ak r14)), (47, .agg (Ac r15))], [B15, B2, (4, (Ak r14)), (5, (Ac r15)), B20], H⟩ ?_
 exact ye
 refine Au ?_
 obtain ⟨e0, e1⟩ := Ar hF
 subst e0
 subst e1
 exact yp (.tup [.agg (Ak r14), .agg (Ac r15)])
noncomputable def Gw (p1 : T_ref04_Cpu) (x4 : T_cpu_Cpu) (a15 : Int) : Option ((Int) ⊕ (Unit ⊕ Unit)) :=
  if (decide (a15 < (p1.Out_.length : Int))) = true then (Af (gi x4.Out_ a15) fun x17 =>
  Af (gi p1.Out_ a15) fun x19 =>
  if (!(Qq x17 x19)) = true then (some (Sum.inr (Sum.inr ())))
  else (some (Sum.inl (IntKind.wrap .i64 (a15 + 1)))))
  else (some (Sum.inr (Sum.inl ())))
noncomputable def Oz (H : Ah) (p0 : Ptr) (p1 : T_ref04_Cpu) : Option (Bool) :=
  (p0).bnd fun i1 o2 =>
  Af (Bf H i1 o2) fun x4 =>
  if ((!(Bx x4.R_ p1.R_)) || ((x4.PC_ != p1.PC_) || ((x4.EPC_ != p1.EPC_) || ((x4.Cause_ != p1.Cause_) || ((x4.State_ != p1.State_) || ((x4.Why_ != p1.Why_) || ((x4.Steps_ != p1.Steps_) || ((x4.Taken_ != p1.Taken_) || ((x4.Out_.length : Int) != (p1.Out_.length : Int)))))))))) = true then (some false)
  else (Af (Ik (fun (x : (Int)) => Gw p1 x4 x) 0) (fU (fun (_ : Unit) =>
  some true) (fun (_ : Unit) =>
  some false)))
theorem Zt (H : Ah) {p0 : Ptr} {p1 : T_ref04_Cpu} {ra : Bool} (hF : Oz H p0 p1 = some ra) : evS X 60 [.one .top (Ptr.av p0), .agg (Ak p1)] H = some (.one .top (.bool ra), H) := by
 let E1 : EN := (3, vl 3 0)
 let B2 : EB := (3, (Ak p1))
 let E5 : EN := (39, vT)
 let E6 : EN := (57, vT)
 let E7 : EN := (66, vT)
 let E32 : EN := (84, vi (p1.Out_.length : Int))
 let E35 : EN := (90, vi (p1.Out_.length : Int))
 let E40 : EN := (101, vl 3 23)
 let E41 : EN := (102, .one (.own 0) (.sl 2 (List.map Ad p1.Out_)))
 let L56 : List EN := [(48, vT), (49, vT)]
 let L57 : List EN := L56 ++ [(50, vN)]
 let L58 : List EN := [E5, (40, vT), (41, vN)]
 let L59 : List EN := L57 ++ [(51, vN)]
 let L60 : List EN := L58 ++ [(42, vN), (43, vN)]
 let L61 : List EN := L59 ++ [(52, vN)]
 let L62 : List EN := [E6, (58, vT)]
 let L63 : List EN := L61 ++ [(53, vN)]
 let L64 : List EN := L62 ++ [(59, vN)]
 let L65 : List EN := L60 ++ [(44, vN), (45, vN)]
 let L66 : List EN := L63 ++ [(54, vN)]
 let L67 : List EN := [(30, vT), (31, vT), (32, vN)]
 let L68 : List EN := L64 ++ [(60, vN)]
 let L69 : List EN := L66 ++ [(55, vN)]
 let L70 : List EN := L65 ++ [(46, vN), (47, vN)]
 let L71 : List EN := L67 ++ [(33, vN), (34, vN)]
 let L72 : List EN := L68 ++ [(61, vN)]
 let L74 : List EN := L71 ++ [(35, vN), (36, vN)]
 let L76 : List EN := L72 ++ [(62, vN)]
 let L77 : List EN := L74 ++ [(37, vN)]
 let L79 : List EN := L76 ++ [(63, vN)]
 let L80 : List EN := [E7, (67, vT)]
 let L81 : List EN := L79 ++ [(64, vN)]
 let L82 : List EN := L80 ++ [(68, vN)]
 let L83 : List EN := L81 ++ [(65, vN)]
 let L84 : List EN := [(21, vT), (22, vT), (23, vN)]
 let L85 : List EN := L82 ++ [(69, vN)]
 let L86 : List EN := L70 ++ L69 ++ [(56, vN)]
 let L87 : List EN := L84 ++ [(24, vN), (25, vN)]
 let L88 : List EN := L87 ++ [(26, vN), (27, vN)]
 let L89 : List EN := L85 ++ [(70, vN)]
 let L90 : List EN := L88 ++ [(28, vN), (29, vN)]
 let L91 : List EN := L89 ++ [(71, vN)]
 let L93 : List EN := L91 ++ [(72, vN)]
 let L96 : List EN := L93 ++ [(73, vN)]
 let L97 : List EN := L96 ++ [(74, vN)]
 let L98 : List EN := [(75, vT), (76, vT), (77, vN)]
 let L106 : List EN := L97 ++ L98 ++ [(78, vN), (79, vN)]
 let L110 : List EN := L106 ++ [(80, vN)]
 let L113 : List EN := L110 ++ [(81, vN)]
 let L115 : List EN := L113 ++ [(82, vN)]
 let L121 : List EN := L115 ++ [(83, vN)]
 let L129 : List EN := L121 ++ [(84, vN)]
 let L132 : List EN := L129 ++ [(85, vN)]
 let L147 : List EN := L97 ++ [(75, vT)]
 let L148 : List EN := L97 ++ [(75, vT), (76, vT)]
 let L149 : List EN := L97 ++ L98 ++ [(78, vN)]
 let L150 : List EN := L132 ++ [(86, vT)]
 let S156 : St := ⟨[], [], H⟩
 let S157 : St := ⟨[(4, vF)], [], H⟩
 refine yf Try.func60 true ⟨[(0, vp p0), (1, .agg (Ak p1))], [], H⟩ ?_
 unfold Oz at hF
 refine ysg ⟨[(0, vp p0), E1], [B2], H⟩ ?_ (h := (by generalize p0 = qp0; cases qp0 <;> kernel_rfl))
 refine Ag ?_
 refine Ag ?_
 obtain ⟨i1, o2, h3, hF⟩ := Bu hF
 let E29 : EN := (78, vo i1 o2)
 let E30 : EN := (79, vo i1 (o2 + 23))
 let E37 : EN := (94, vo i1 o2)
 let L44 : List EN := [(0, vo i1 o2), E1]
 let L45 : List EN := L44 ++ [(6, vo i1 o2), (7, vo i1 o2), (8, vo i1 o2)]
 obtain ⟨x4, V5, hF⟩ := Ab hF
 replace V5 := Bb V5
 let E3 : EN := (9, .agg (arM .u32 16 x4.R_))
 let E4 : EN := (12, vb (!(Bx x4.R_ p1.R_)))
 let E8 : EN := (17, vu x4.PC_)
 let E9 : EN := (20, vb (x4.PC_ != p1.PC_))
 let E10 : EN := (21, vb (x4.PC_ != p1.PC_))
 let E11 : EN := (26, vu x4.EPC_)
 let E12 : EN := (29, vb (x4.EPC_ != p1.EPC_))
 let E13 : EN := (30, vb (x4.EPC_ != p1.EPC_))
 let E14 : EN := (35, vu x4.Cause_)
 let E15 : EN := (38, vb (x4.Cause_ != p1.Cause_))
 let E16 : EN := (39, vb (x4.Cause_ != p1.Cause_))
 let E17 : EN := (44, vi x4.State_)
 let E18 : EN := (47, vb (x4.State_ != p1.State_))
 let E19 : EN := (48, vb (x4.State_ != p1.State_))
 let E20 : EN := (53, vi x4.Why_)
 let E21 : EN := (56, vb (x4.Why_ != p1.Why_))
 let E22 : EN := (57, vb (x4.Why_ != p1.Why_))
 let E23 : EN := (62, vi x4.Steps_)
 let E24 : EN := (65, vb (x4.Steps_ != p1.Steps_))
 let E25 : EN := (66, vb (x4.Steps_ != p1.Steps_))
 let E26 : EN := (71, vi x4.Taken_)
 let E27 : EN := (74, vb (x4.Taken_ != p1.Taken_))
 let E28 : EN := (75, vb (x4.Taken_ != p1.Taken_))
 let E31 : EN := (81, vi (x4.Out_.length : Int))
 let E33 : EN := (85, vb ((x4.Out_.length : Int) != (p1.Out_.length : Int)))
 let E38 : EN := (97, .one .bh (.sl 2 (List.map Ad x4.Out_)))
 let L46 : List EN := L45 ++ [E3, (10, vl 3 0), (11, .agg (arM .u32 16 p1.R_))]
 let L47 : List EN := L46 ++ [(12, vF), (13, vF), (14, vo i1 o2)]
 let L48 : List EN := L47 ++ [(15, vo i1 o2), (16, vo i1 (o2 + 16))]
 let L49 : List EN := L48 ++ [E8, (18, vl 3 16), (19, vu p1.PC_)]
 let L50 : List EN := L49 ++ [(20, vF), (21, vF), (22, vF), (23, vo i1 o2)]
 let L51 : List EN := L50 ++ [(24, vo i1 o2), (25, vo i1 (o2 + 17))]
 let L52 : List EN := L51 ++ [E11, (27, vl 3 17), (28, vu p1.EPC_)]
 let L53 : List EN := L52 ++ [(29, vF), (30, vF), (31, vF), (32, vo i1 o2)]
 let L54 : List EN := L53 ++ [(33, vo i1 o2), (34, vo i1 (o2 + 18))]
 let L55 : List EN := L54 ++ [E14, (36, vl 3 18), (37, vu p1.Cause_)]
 let L73 : List EN := L55 ++ [(38, vF), (39, vF), (40, vF), (41, vo i1 o2)]
 let L75 : List EN := L73 ++ [(42, vo i1 o2), (43, vo i1 (o2 + 19))]
 let L78 : List EN := L75 ++ [E17, (45, vl 3 19), (46, vi p1.State_)]
 let L92 : List EN := L78 ++ [(47, vF), (48, vF), (49, vF), (50, vo i1 o2)]
 let L94 : List EN := L92 ++ [(51, vo i1 o2), (52, vo i1 (o2 + 20))]
 let L95 : List EN := L94 ++ [E20, (54, vl 3 20), (55, vi p1.Why_)]
 let L99 : List EN := L46 ++ [(12, vT), (13, vT), (14, vN)]
 let L100 : List EN := L99 ++ [(15, vN), (16, vN), (17, vN), (18, vN)]
 let L101 : List EN := L100 ++ [(19, vN), (20, vN)]
 let L102 : List EN := L95 ++ [(56, vF), (57, vF), (58, vF), (59, vo i1 o2)]
 let L103 : List EN := L49 ++ [(20, vT)]
 let L104 : List EN := L102 ++ [(60, vo i1 o2), (61, vo i1 (o2 + 21))]
 let L105 : List EN := L104 ++ [E23, (63, vl 3 21), (64, vi p1.Steps_)]
 let L107 : List EN := L52 ++ [(29, vT)]
 let L108 : List EN := L101 ++ L90 ++ L77 ++ [(38, vN)]
 let L109 : List EN := L103 ++ L90 ++ L77 ++ [(38, vN)]
 let L111 : List EN := L107 ++ L77 ++ [(38, vN)]
 let L112 : List EN := L55 ++ [(38, vT)]
 let L114 : List EN := L78 ++ [(47, vT)]
 let L116 : List EN := L105 ++ [(65, vF), (66, vF), (67, vF), (68, vo i1 o2)]
 let L117 : List EN := L116 ++ [(69, vo i1 o2), (70, vo i1 (o2 + 22))]
 let L118 : List EN := L114 ++ L69 ++ [(56, vN)]
 let L119 : List EN := L117 ++ [E26, (72, vl 3 22), (73, vi p1.Taken_)]
 let L120 : List EN := L95 ++ [(56, vT)]
 let L123 : List EN := L108 ++ L86 ++ L83
 let L124 : List EN := L109 ++ L86 ++ L83
 let L125 : List EN := L111 ++ L86 ++ L83
 let L126 : List EN := L112 ++ L86 ++ L83
 let L127 : List EN := L118 ++ L83
 let L128 : List EN := L120 ++ L83
 let L130 : List EN := L105 ++ [(65, vT)]
 let L133 : List EN := L119 ++ [(74, vF), (75, vF), (76, vF), (77, vo i1 o2)]
 let L135 : List EN := L101 ++ L90
 let L136 : List EN := L103 ++ L90
 let L137 : List EN := L108 ++ L70
 let L138 : List EN := L108 ++ L86
 let L139 : List EN := L109 ++ L70
 let L140 : List EN := L109 ++ L86
 let L141 : List EN := L111 ++ L70
 let L142 : List EN := L111 ++ L86
 let L143 : List EN := L112 ++ L70
 let L144 : List EN := L112 ++ L86
 let L145 : List EN := L133 ++ [E29, E30, (80, .one .bh (.sl 2 (List.map Ad x4.Out_)))]
 let L151 : List EN := L119 ++ [(74, vT)] ++ L98 ++ [(78, vN), (79, vN), (80, vN)]
 let L153 : List EN := L145 ++ [E31, (82, vl 3 23), (83, .one (.own 0) (.sl 2 (List.map Ad p1.Out_)))]
 let L155 : List EN := L151 ++ [(81, vN), (82, vN), (83, vN), (84, vN)]
 refine Bs (.take 0 (.take 1 (.take 2 (.take 3 (.take 4 (.take 5 (.take 6 (.take 7 (.take 8 (.take 9 (.take 10 (.take 11 (.take 12 (.take 13 (.take 14 (.take 15 (.take 16 (.take 17 (.take 18 (.take 19 (.take 20 (.take 21 (.take 22 (.take 23 (.take 24 (.take 25 (.take 26 (.take 27 (.take 28 (.take 29 (.take 30 (.take 31 (.take 32 (.take 33 (.take 34 (.take 35 (.take 36 (.take 37 (.take 38 (.take 39 (.take 40 (.take 41 (.take 42 (.take 43 (.take 44 (.take 45 (.take 46 (.take 47 (.take 48 (.take 49 (.take 50 (.take 51 (.take 52 (.take 53 (.take 54 (.take 55 (.take 56 (.take 57 (.take 58 (.take 59 (.take 60 (.take 61 (.take 62 (.take 63 (.take 64 (.take 65 (.take 66 (.take 67 (.take 68 (.take 69 (.take 70 (.take 71 (.take 72 (.take 73 (.take 74 (.take 75 (.take 76 (.take 77 (.take 78 (.take 79 (.take 80 .done))))))))))))))))))))))))))))))))))))))))))))))))))))))))))))))))))))))))))))))))) (by kernel_rfl) (⟨L44 ++ [(86, vb ((!(Bx x4.R_ p1.R_)) || ((x4.PC_ != p1.PC_) || ((x4.EPC_ != p1.EPC_) || ((x4.Cause_ != p1.Cause_) || ((x4.State_ != p1.State_) || ((x4.Why_ != p1.Why_) || ((x4.Steps_ != p1.Steps_) || ((x4.Taken_ != p1.Taken_) || ((x4.Out_.length : Int) != (p1.Out_.length : Int)))))))))))], [B2], H⟩ : St) ?_ ?_
 refine Aq ⟨[(0, vp p0), E1, (6, vp p0)], [B2], H⟩ (by generalize p0 = qp0; cases qp0 <;> kernel_rfl) ?_
 refine Fi (congrArg (fun q => (⟨[(0, vp q), E1, (6, vp q)], [B2], H⟩ : St)) h3) ?_
 refine ydk 2 ⟨L45, [B2], H⟩ ?_
 refine Aq ⟨L45 ++ [E3], [B2], H⟩ (yd (X := X) (⟨L45, [B2], H⟩ : St) 46 V5 0 16 true (.agg (arM .u32 16 x4.R_)) (some 9)) ?_
 refine ydk 2 ⟨L46, [B2], H⟩ ?_
 refine Aq ⟨L46 ++ [E4], [B2], H⟩ (Ro (⟨L46, [B2], H⟩ : St) (cA (P := X.P) (ty := 46) (x := (.tmp 9)) (y := (.tmp 11)) (cs := (arM .u32 16 x4.R_)) (ds := (arM .u32 16 p1.R_)) (us := [.int .u32 (x4.R_.g 0), .int .u32 (x4.R_.g 1), .int .u32 (x4.R_.g 2), .int .u32 (x4.R_.g 3), .int .u32 (x4.R_.g 4), .int .u32 (x4.R_.g 5), .int .u32 (x4.R_.g 6), .int .u32 (x4.R_.g 7), .int .u32 (x4.R_.g 8), .int .u32 (x4.R_.g 9), .int .u32 (x4.R_.g 10), .int .u32 (x4.R_.g 11), .int .u32 (x4.R_.g 12), .int .u32 (x4.R_.g 13), .int .u32 (x4.R_.g 14), .int .u32 (x4.R_.g 15)]) (vs := [.int .u32 (p1.R_.g 0), .int .u32 (p1.R_.g 1), .int .u32 (p1.R_.g 2), .int .u32 (p1.R_.g 3), .int .u32 (p1.R_.g 4), .int .u32 (p1.R_.g 5), .int .u32 (p1.R_.g 6), .int .u32 (p1.R_.g 7), .int .u32 (p1.R_.g 8), .int .u32 (p1.R_.g 9), .int .u32 (p1.R_.g 10), .int .u32 (p1.R_.g 11), .int .u32 (p1.R_.g 12), .int .u32 (p1.R_.g 13), .int .u32 (p1.R_.g 14), .int .u32 (p1.R_.g 15)]) (qs := [(x4.R_.g 0) == (p1.R_.g 0), (x4.R_.g 1) == (p1.R_.g 1), (x4.R_.g 2) == (p1.R_.g 2), (x4.R_.g 3) == (p1.R_.g 3), (x4.R_.g 4) == (p1.R_.g 4), (x4.R_.g 5) == (p1.R_.g 5), (x4.R_.g 6) == (p1.R_.g 6), (x4.R_.g 7) == (p1.R_.g 7), (x4.R_.g 8) == (p1.R_.g 8), (x4.R_.g 9) == (p1.R_.g 9), (x4.R_.g 10) == (p1.R_.g 10), (x4.R_.g 11) == (p1.R_.g 11), (x4.R_.g 12) == (p1.R_.g 12), (x4.R_.g 13) == (p1.R_.g 13), (x4.R_.g 14) == (p1.R_.g 14), (x4.R_.g 15) == (p1.R_.g 15)]) (by kernel_rfl) (by kernel_rfl) (by kernel_rfl) (by kernel_rfl)) rfl (some 12) (by kernel_rfl) (by kernel_rfl)) ?_
 refine ydt ⟨L46 ++ [E4, (13, vb (!(Bx x4.R_ p1.R_)))], [B2], H⟩ ?_
 rcases Ax (!(Bx x4.R_ p1.R_)) with h6 | h6
 refine Fi (congrArg (fun q => (⟨L46 ++ [(12, vb q), (13, vb q)], [B2], H⟩ : St)) h6) ?_
 refine ydk 73 ⟨L123 ++ L150, [B2], H⟩ ?_
 refine Uj (congrArg (fun q0 => (⟨L44 ++ [(86, vb q0)], [B2], H⟩ : St)) (show true = ((!(Bx x4.R_ p1.R_)) || ((x4.PC_ != p1.PC_) || ((x4.EPC_ != p1.EPC_) || ((x4.Cause_ != p1.Cause_) || ((x4.State_ != p1.State_) || ((x4.Why_ != p1.Why_) || ((x4.Steps_ != p1.Steps_) || ((x4.Taken_ != p1.Taken_) || ((x4.Out_.length : Int) != (p1.Out_.length : Int)))))))))) by simp [h6])) ?_
 exact yde
 refine Fi (congrArg (fun q => (⟨L46 ++ [(12, vb q), (13, vb q)], [B2], H⟩ : St)) h6) ?_
 refine ydk 3 ⟨L48, [B2], H⟩ ?_
 refine Aq ⟨L48 ++ [E8], [B2], H⟩ (yd (X := X) (⟨L48, [B2], H⟩ : St) 35 V5 16 1 false (vu x4.PC_) (some 17)) ?_
 refine ydk 5 ⟨L49 ++ [E9, E10, (22, vb (x4.PC_ != p1.PC_))], [B2], H⟩ ?_
 rcases Ax (x4.PC_ != p1.PC_) with h7 | h7
 refine Fi (congrArg (fun q => (⟨L49 ++ [(20, vb q), (21, vb q), (22, vb q)], [B2], H⟩ : St)) h7) ?_
 refine ydk 64 ⟨L124 ++ L150, [B2], H⟩ ?_
 refine Uj (congrArg (fun q0 => (⟨L44 ++ [(86, vb q0)], [B2], H⟩ : St)) (show true = ((!(Bx x4.R_ p1.R_)) || ((x4.PC_ != p1.PC_) || ((x4.EPC_ != p1.EPC_) || ((x4.Cause_ != p1.Cause_) || ((x4.State_ != p1.State_) || ((x4.Why_ != p1.Why_) || ((x4.Steps_ != p1.Steps_) || ((x4.Taken_ != p1.Taken_) || ((x4.Out_.length : Int) != (p1.Out_.length : Int)))))))))) by simp [h6, h7])) ?_
 exact yde
 refine Fi (congrArg (fun q => (⟨L49 ++ [(20, vb q), (21, vb q), (22, vb q)], [B2], H⟩ : St)) h7) ?_
 refine ydk 3 ⟨L51, [B2], H⟩ ?_
 refine Aq ⟨L51 ++ [E11], [B2], H⟩ (yd (X := X) (⟨L51, [B2], H⟩ : St) 35 V5 17 1 false (vu x4.EPC_) (some 26)) ?_
 refine ydk 5 ⟨L52 ++ [E12, E13, (31, vb (x4.EPC_ != p1.EPC_))], [B2], H⟩ ?_
 rcases Ax (x4.EPC_ != p1.EPC_) with h8 | h8
 refine Fi (congrArg (fun q => (⟨L52 ++ [(29, vb q), (30, vb q), (31, vb q)], [B2], H⟩ : St)) h8) ?_
 refine ydk 55 ⟨L125 ++ L150, [B2], H⟩ ?_
 refine Uj (congrArg (fun q0 => (⟨L44 ++ [(86, vb q0)], [B2], H⟩ : St)) (show true = ((!(Bx x4.R_ p1.R_)) || ((x4.PC_ != p1.PC_) || ((x4.EPC_ != p1.EPC_) || ((x4.Cause_ != p1.Cause_) || ((x4.State_ != p1.State_) || ((x4.Why_ != p1.Why_) || ((x4.Steps_ != p1.Steps_) || ((x4.Taken_ != p1.Taken_) || ((x4.Out_.length : Int) != (p1.Out_.length : Int)))))))))) by simp [h6, h7, h8])) ?_
 exact yde
 refine Fi (congrArg (fun q => (⟨L52 ++ [(29, vb q), (30, vb q), (31, vb q)], [B2], H⟩ : St)) h8) ?_
 refine ydk 3 ⟨L54, [B2], H⟩ ?_
 refine Aq ⟨L54 ++ [E14], [B2], H⟩ (yd (X := X) (⟨L54, [B2], H⟩ : St) 35 V5 18 1 false (vu x4.Cause_) (some 35)) ?_
 refine ydk 5 ⟨L55 ++ [E15, E16, (40, vb (x4.Cause_ != p1.Cause_))], [B2], H⟩ ?_
 rcases Ax (x4.Cause_ != p1.Cause_) with h9 | h9
 refine Fi (congrArg (fun q => (⟨L55 ++ [(38, vb q), (39, vb q), (40, vb q)], [B2], H⟩ : St)) h9) ?_
 refine ydk 46 ⟨L126 ++ L150, [B2], H⟩ ?_
 refine Uj (congrArg (fun q0 => (⟨L44 ++ [(86, vb q0)], [B2], H⟩ : St)) (show true = ((!(Bx x4.R_ p1.R_)) || ((x4.PC_ != p1.PC_) || ((x4.EPC_ != p1.EPC_) || ((x4.Cause_ != p1.Cause_) || ((x4.State_ != p1.State_) || ((x4.Why_ != p1.Why_) || ((x4.Steps_ != p1.Steps_) || ((x4.Taken_ != p1.Taken_) || ((x4.Out_.length : Int) != (p1.Out_.length : Int)))))))))) by simp [h6, h7, h8, h9])) ?_
 exact yde
 refine Fi (congrArg (fun q => (⟨L55 ++ [(38, vb q), (39, vb q), (40, vb q)], [B2], H⟩ : St)) h9) ?_
 refine ydk 3 ⟨L75, [B2], H⟩ ?_
 refine Aq ⟨L75 ++ [E17], [B2], H⟩ (yd (X := X) (⟨L75, [B2], H⟩ : St) 3 V5 19 1 false (vi x4.State_) (some 44)) ?_
 refine ydk 5 ⟨L78 ++ [E18, E19, (49, vb (x4.State_ != p1.State_))], [B2], H⟩ ?_
 rcases Ax (x4.State_ != p1.State_) with h10 | h10
 refine Fi (congrArg (fun q => (⟨L78 ++ [(47, vb q), (48, vb q), (49, vb q)], [B2], H⟩ : St)) h10) ?_
 refine ydk 37 ⟨L127 ++ L150, [B2], H⟩ ?_
 refine Uj (congrArg (fun q0 => (⟨L44 ++ [(86, vb q0)], [B2], H⟩ : St)) (show true = ((!(Bx x4.R_ p1.R_)) || ((x4.PC_ != p1.PC_) || ((x4.EPC_ != p1.EPC_) || ((x4.Cause_ != p1.Cause_) || ((x4.State_ != p1.State_) || ((x4.Why_ != p1.Why_) || ((x4.Steps_ != p1.Steps_) || ((x4.Taken_ != p1.Taken_) || ((x4.Out_.length : Int) != (p1.Out_.length : Int)))))))))) by simp [h6, h7, h8, h9, h10])) ?_
 exact yde
 refine Fi (congrArg (fun q => (⟨L78 ++ [(47, vb q), (48, vb q), (49, vb q)], [B2], H⟩ : St)) h10) ?_
 refine ydk 3 ⟨L94, [B2], H⟩ ?_
 refine Aq ⟨L94 ++ [E20], [B2], H⟩ (yd (X := X) (⟨L94, [B2], H⟩ : St) 33 V5 20 1 false (vi x4.Why_) (some 53)) ?_
 refine ydk 5 ⟨L95 ++ [E21, E22, (58, vb (x4.Why_ != p1.Why_))], [B2], H⟩ ?_
 rcases Ax (x4.Why_ != p1.Why_) with h11 | h11
 refine Fi (congrArg (fun q => (⟨L95 ++ [(56, vb q), (57, vb q), (58, vb q)], [B2], H⟩ : St)) h11) ?_
 refine ydk 28 ⟨L128 ++ L150, [B2], H⟩ ?_
 refine Uj (congrArg (fun q0 => (⟨L44 ++ [(86, vb q0)], [B2], H⟩ : St)) (show true = ((!(Bx x4.R_ p1.R_)) || ((x4.PC_ != p1.PC_) || ((x4.EPC_ != p1.EPC_) || ((x4.Cause_ != p1.Cause_) || ((x4.State_ != p1.State_) || ((x4.Why_ != p1.Why_) || ((x4.Steps_ != p1.Steps_) || ((x4.Taken_ != p1.Taken_) || ((x4.Out_.length : Int) != (p1.Out_.length : Int)))))))))) by simp [h6, h7, h8, h9, h10, h11])) ?_
 exact yde
 refine Fi (congrArg (fun q => (⟨L95 ++ [(56, vb q), (57, vb q), (58, vb q)], [B2], H⟩ : St)) h11) ?_
 refine ydk 3 ⟨L104, [B2], H⟩ ?_
 refine Aq ⟨L104 ++ [E23], [B2], H⟩ (yd (X := X) (⟨L104, [B2], H⟩ : St) 3 V5 21 1 false (vi x4.Steps_) (some 62)) ?_
 refine ydk 5 ⟨L105 ++ [E24, E25, (67, vb (x4.Steps_ != p1.Steps_))], [B2], H⟩ ?_
 rcases Ax (x4.Steps_ != p1.Steps_) with h12 | h12
 refine Fi (congrArg (fun q => (⟨L105 ++ [(65, vb q), (66, vb q), (67, vb q)], [B2], H⟩ : St)) h12) ?_
 refine ydk 19 ⟨L130 ++ L150, [B2], H⟩ ?_
 refine Uj (congrArg (fun q0 => (⟨L44 ++ [(86, vb q0)], [B2], H⟩ : St)) (show true = ((!(Bx x4.R_ p1.R_)) || ((x4.PC_ != p1.PC_) || ((x4.EPC_ != p1.EPC_) || ((x4.Cause_ != p1.Cause_) || ((x4.State_ != p1.State_) || ((x4.Why_ != p1.Why_) || ((x4.Steps_ != p1.Steps_) || ((x4.Taken_ != p1.Taken_) || ((x4.Out_.length : Int) != (p1.Out_.length : Int)))))))))) by simp [h6, h7, h8, h9, h10, h11, h12])) ?_
 exact yde
 refine Fi (congrArg (fun q => (⟨L105 ++ [(65, vb q), (66, vb q), (67, vb q)], [B2], H⟩ : St)) h12) ?_
 refine ydk 3 ⟨L117, [B2], H⟩ ?_
 refine Aq ⟨L117 ++ [E26], [B2], H⟩ (yd (X := X) (⟨L117, [B2], H⟩ : St) 3 V5 22 1 false (vi x4.Taken_) (some 71)) ?_
 refine ydk 5 ⟨L119 ++ [E27, E28, (76, vb (x4.Taken_ != p1.Taken_))], [B2], H⟩ ?_
 rcases Ax (x4.Taken_ != p1.Taken_) with h13 | h13
 refine Fi (congrArg (fun q => (⟨L119 ++ [(74, vb q), (75, vb q), (76, vb q)], [B2], H⟩ : St)) h13) ?_
 refine ydk 10 ⟨L155 ++ [(85, vN), (86, vT)], [B2], H⟩ ?_
 refine Uj (congrArg (fun q0 => (⟨L44 ++ [(86, vb q0)], [B2], H⟩ : St)) (show true = ((!(Bx x4.R_ p1.R_)) || ((x4.PC_ != p1.PC_) || ((x4.EPC_ != p1.EPC_) || ((x4.Cause_ != p1.Cause_) || ((x4.State_ != p1.State_) || ((x4.Why_ != p1.Why_) || ((x4.Steps_ != p1.Steps_) || ((x4.Taken_ != p1.Taken_) || ((x4.Out_.length : Int) != (p1.Out_.length : Int)))))))))) by simp [h6, h7, h8, h9, h10, h11, h12, h13])) ?_
 exact yde
 refine Fi (congrArg (fun q => (⟨L119 ++ [(74, vb q), (75, vb q), (76, vb q)], [B2], H⟩ : St)) h13) ?_
 refine ydk 3 ⟨L133 ++ [E29, E30], [B2], H⟩ ?_
 refine Aq ⟨L145, [B2], H⟩ (yd (X := X) (⟨L133 ++ [E29, E30], [B2], H⟩ : St) 47 V5 23 1 false (.one .bh (.sl 2 (List.map Ad x4.Out_))) (some 80)) ?_
 refine Aq ⟨L145 ++ [E31], [B2], H⟩ (yl (⟨L145, [B2], H⟩ : St) x4.Out_ Ad (some 81)) ?_
 refine ydk 2 ⟨L153, [B2], H⟩ ?_
 refine Aq ⟨L153 ++ [E32], [B2], H⟩ (yl (⟨L153, [B2], H⟩ : St) p1.Out_ Ad (some 84)) ?_
 refine ydk 2 ⟨L153 ++ [E32, E33, (86, vb ((x4.Out_.length : Int) != (p1.Out_.length : Int)))], [B2], H⟩ ?_
 refine Uj (congrArg (fun q0 => (⟨L44 ++ [(86, vb q0)], [B2], H⟩ : St)) (show ((x4.Out_.length : Int) != (p1.Out_.length : Int)) = ((!(Bx x4.R_ p1.R_)) || ((x4.PC_ != p1.PC_) || ((x4.EPC_ != p1.EPC_) || ((x4.Cause_ != p1.Cause_) || ((x4.State_ != p1.State_) || ((x4.Why_ != p1.Why_) || ((x4.Steps_ != p1.Steps_) || ((x4.Taken_ != p1.Taken_) || ((x4.Out_.length : Int) != (p1.Out_.length : Int)))))))))) by simp [h6, h7, h8, h9, h10, h11, h12, h13])) ?_
 exact yde
 rcases Ae hF with ⟨h14, hF⟩ | ⟨h14, hF⟩
 refine yT h14 S156 ?_
 refine ysg S157 ?_
 refine Au ?_
 obtain e0 := Am hF
 subst e0
 exact yp (vF)
 refine yF h14 ⟨L44, [B2], H⟩ ?_
 refine Ao ?_
 refine Ag ?_
 refine ysg ⟨L44 ++ [(5, vi 0)], [B2], H⟩ ?_
 refine Bt ?_
 obtain ⟨r22, hL23, hF⟩ := Ab hF
 refine Qn (fun (x : (Int)) => (⟨L44 ++ [(5, vi x)], [B2], H⟩ : St)) (Sum.elim (fun (y : Unit) => ((.exit 0, S156) : Ex × St)) (fun (y : Unit) => ((.ret, S157) : Ex × St))) hL23 (by kernel_rfl) ?_ ?_
 rintro a15 o hF
 replace hF : Gw p1 x4 a15 = some o := hF
 let E34 : EN := (91, vb (decide (a15 < (p1.Out_.length : Int))))
 let L122 : List EN := L44 ++ [(5, vi a15)]
 let L131 : List EN := L122 ++ [E37, (95, vo i1 o2), (96, vo i1 (o2 + 23))]
 let L134 : List EN := L131 ++ [E38, (98, vi a15)]
 let L154 : List EN := L122 ++ [(87, vi a15), (88, vl 3 23), (89, .one (.own 0) (.sl 2 (List.map Ad p1.Out_)))]
 unfold Gw at hF
 refine Ag ?_
 refine yso ⟨L122 ++ [E34], [B2], H⟩ ?_ ?_
 refine yr 3 ⟨L154, [B2], H⟩ ?_
 refine Ai ⟨L154 ++ [E35], [B2], H⟩ (yl (⟨L154, [B2], H⟩ : St) p1.Out_ Ad (some 90)) ?_
 refine yr 1 ⟨L154 ++ [E35, E34], [B2], H⟩ ?_
 exact ye
 rcases Ae hF with ⟨h16, hF⟩ | ⟨h16, hF⟩
 refine yT h16 ⟨L122, [B2], H⟩ ?_
 refine Ao ?_
 refine Ag ?_
 refine Bt ?_
 refine Ag ?_
 obtain ⟨x17, h18, hF⟩ := Ab hF
 let E39 : EN := (99, .one .top (.rd .bh .bh [.int .i64 x17.Port_, .int .i32 x17.Value_] 0))
 let L146 : List EN := L134 ++ [E39, (100, .agg [(.top, .int .i64 x17.Port_), (.top, .int .i32 x17.Value_)])]
 let L152 : List EN := L146 ++ [E40, E41, (103, vi a15)]
 obtain ⟨x19, h20, hF⟩ := Ab hF
 let E36 : EN := (106, vb (!(Qq x17 x19)))
 let E42 : EN := (104, .one .top (.rd (.own 0) (.own 0) [.int .i64 x19.Port_, .int .i32 x19.Value_] 0))
 let E43 : EN := (105, .agg [(.top, .int .i64 x19.Port_), (.top, .int .i32 x19.Value_)])
 refine Bs (.take 0 (.take 1 (.take 2 (.take 3 (.take 4 (.take 5 (.take 6 (.take 7 (.take 8 (.take 9 (.take 10 (.take 11 (.take 12 .done))))))))))))) (by kernel_rfl) (⟨L122 ++ [E36], [B2], H⟩ : St) ?_ ?_
 refine ydk 3 ⟨L131, [B2], H⟩ ?_
 refine Aq ⟨L131 ++ [E38], [B2], H⟩ (yd (X := X) (⟨L131, [B2], H⟩ : St) 47 V5 23 1 false (.one .bh (.sl 2 (List.map Ad x4.Out_))) (some 97)) ?_
 refine ydt ⟨L134, [B2], H⟩ ?_
 refine Aq ⟨L134 ++ [E39], [B2], H⟩ (P5 (X := X) (⟨L134, [B2], H⟩ : St) 47 67 2 h18 Ad .bh (some 99) (by kernel_rfl) (by kernel_rfl) (by kernel_rfl) (by kernel_rfl)) ?_
 refine ydk 4 ⟨L152, [B2], H⟩ ?_
 refine Aq ⟨L152 ++ [E42], [B2], H⟩ (P5 (X := X) (⟨L152, [B2], H⟩ : St) 47 67 2 h20 Ad (.own 0) (some 104) (by kernel_rfl) (by kernel_rfl) (by kernel_rfl) (by kernel_rfl)) ?_
 refine ydt ⟨L152 ++ [E42, E43], [B2], H⟩ ?_
 refine Aq ⟨L152 ++ [E42, E43, E36], [B2], H⟩ (Ro (⟨L152 ++ [E42, E43], [B2], H⟩ : St) (cA (P := X.P) (ty := 67) (x := (.tmp 100)) (y := (.tmp 105)) (cs := [(.top, .int .i64 x17.Port_), (.top, .int .i32 x17.Value_)]) (ds := [(.top, .int .i64 x19.Port_), (.top, .int .i32 x19.Value_)]) (us := [.int .i64 x17.Port_, .int .i32 x17.Value_]) (vs := [.int .i64 x19.Port_, .int .i32 x19.Value_]) (qs := [x17.Port_ == x19.Port_, x17.Value_ == x19.Value_]) (by kernel_rfl) (by kernel_rfl) (by kernel_rfl) (by kernel_rfl)) rfl (some 106) (by kernel_rfl) (by kernel_rfl)) ?_
 exact yde
 rcases Ae hF with ⟨h21, hF⟩ | ⟨h21, hF⟩
 refine yT h21 S156 ?_
 refine ysg S157 ?_
 refine Au ?_
 cases hF
 exact ⟨_, rfl, (by kernel_rfl)⟩
 refine yF h21 ⟨L122, [B2], H⟩ ?_
 refine Ao ?_
 refine yg ⟨L44 ++ [(5, vi (IntKind.wrap .i64 (a15 + 1)))], [B2], H⟩ ?_
 cases hF
 exact ⟨_, rfl, (by kernel_rfl)⟩
 refine yF h16 S156 ?_
 refine Ph ?_
 cases hF
 exact ⟨_, rfl, (by kernel_rfl)⟩
 rcases Ug hF with ⟨r22', rfl, hF⟩ | ⟨r22', rfl, hF⟩
 refine bT (i := 0) (s := S156) (by kernel_rfl) ?_
 refine Qm ?_
 refine ysg ⟨[(4, vT)], [], H⟩ ?_
 refine Au ?_
 obtain e0 := Am hF
 subst e0
 exact yp (vT)
 refine oC (s := S157) (by kernel_rfl) ?_
 obtain e0 := Am hF
 subst e0
 exact yp (vF)
noncomputable def Jx (H : Ah) (p0 : Ptr) : Option (T_memory_Layout) :=
  (p0).bnd fun i1 o2 =>
  Af (Cu H i1 o2) fun x4 =>
  some x4.layout_
theorem Rq (H : Ah) {p0 : Ptr} {ra : T_memory_Layout} (hF : Jx H p0 = some ra) : evS X 107 [.one .top (Ptr.av p0)] H = some (.agg (Ba ra), H) := by
 let E1 : EN := (2, vl 2 0)
 let B2 : EB := (2, (List.replicate 5 (.top, .int .u32 0)))
 refine yf Try.func107 true ⟨[(0, vp p0)], [], H⟩ ?_
 unfold Jx at hF
 refine ysg ⟨[(0, vp p0), E1], [B2], H⟩ ?_ (h := (by generalize p0 = qp0; cases qp0 <;> kernel_rfl))
 refine Ag ?_
 obtain ⟨i1, o2, h3, hF⟩ := Bu hF
 let L5 : List EN := [(0, vo i1 o2), E1, (3, vo i1 o2), (4, vo i1 o2), (5, vo i1 o2)]
 obtain ⟨x4, V5, hF⟩ := Ab hF
 replace V5 := Bb V5
 let B3 : EB := (2, [(.top, .int .u32 x4.layout_.Code_), (.top, .int .u32 x4.layout_.Tables_), (.top, .int .u32 x4.layout_.Data_), (.top, .int .u32 x4.layout_.Heap_), (.top, .int .u32 x4.layout_.Stack_)])
 let E4 : EN := (6, .agg [(.top, .int .u32 x4.layout_.Code_), (.top, .int .u32 x4.layout_.Tables_), (.top, .int .u32 x4.layout_.Data_), (.top, .int .u32 x4.layout_.Heap_), (.top, .int .u32 x4.layout_.Stack_)])
 refine Aj ⟨[E1], [B3], H⟩ ?_ ?_
 refine yr 1 ⟨[(0, vp p0), E1, (3, vp p0)], [B2], H⟩ ?_ (h := (by generalize p0 = qp0; cases qp0 <;> kernel_rfl))
 refine Bd (congrArg (fun q => (⟨[(0, vp q), E1, (3, vp q)], [B2], H⟩ : St)) h3) ?_
 refine yr 1 ⟨[(0, vo i1 o2), E1, (3, vo i1 o2), (4, vo i1 o2)], [B2], H⟩ ?_
 refine yr 1 ⟨L5, [B2], H⟩ ?_
 refine Ai ⟨L5 ++ [E4], [B2], H⟩ (yd (X := X) (⟨L5, [B2], H⟩ : St) 92 V5 0 5 true (.agg [(.top, .int .u32 x4.layout_.Code_), (.top, .int .u32 x4.layout_.Tables_), (.top, .int .u32 x4.layout_.Data_), (.top, .int .u32 x4.layout_.Heap_), (.top, .int .u32 x4.layout_.Stack_)]) (some 6)) ?_
 refine yr 1 ⟨L5 ++ [E4], [B3], H⟩ ?_
 exact ye
 refine Au ?_
 obtain e0 := Am hF
 subst e0
 exact yp (.agg [(.top, .int .u32 x4.layout_.Code_), (.top, .int .u32 x4.layout_.Tables_), (.top, .int .u32 x4.layout_.Data_), (.top, .int .u32 x4.layout_.Heap_), (.top, .int .u32 x4.layout_.Stack_)])
noncomputable def Fg (p1 : T_ref03_Mem) (H : Ah) (p0 : Ptr) (a6 : Int) : Option ((Int) ⊕ (Unit ⊕ Unit)) :=
  if (decide (a6 < (p1.W_.length : Int))) = true then (Cc (Ej H p0 (IntKind.wrap .u32 (IntKind.wrap .i64 (4 * a6)))) fun r8 r9 =>
  Af (if (r9 != 0) = true then (some true) else (Af (gi p1.W_ a6) fun x12 =>
  some (r8 != x12))) fun w14 =>
  if w14 = true then (some (Sum.inr (Sum.inr ())))
  else (some (Sum.inl (IntKind.wrap .i64 (a6 + 1)))))
  else (some (Sum.inr (Sum.inl ())))
noncomputable def O0 (H : Ah) (p0 : Ptr) (p1 : T_ref03_Mem) : Option (Bool) :=
  Af (Jx H p0) fun r1 =>
  Af (Ld r1) fun r3 =>
  if (!(Pi r3 p1.Ends_)) = true then (some false)
  else (Af (Ik (fun (x : (Int)) => Fg p1 H p0 x) 0) (fU (fun (_ : Unit) =>
  some true) (fun (_ : Unit) =>
  some false)))
theorem Zu (H : Ah) {p0 : Ptr} {p1 : T_ref03_Mem} {ra : Bool} (hF : O0 H p0 p1 = some ra) : evS X 61 [.one .top (Ptr.av p0), .agg (Ac p1)] H = some (.one .top (.bool ra), H) := by
 let B1 : EB := (3, (Ac p1))
 let E5 : EN := (17, vi (p1.W_.length : Int))
 let L8 : Ptr → List EN := fun z0 => [(0, vp z0), (3, vl 3 0)]
 let L10 : Ptr → List EN := fun z0 => (L8 z0) ++ [(8, vp z0)]
 let L12 : List EN := [(11, vl 3 0), (12, .agg (arM .u32 5 p1.Ends_))]
 let S17 : St := ⟨[], [], H⟩
 let S18 : St := ⟨[(4, vF)], [], H⟩
 refine yf Try.func61 true ⟨[(0, vp p0), (1, .agg (Ac p1))], [], H⟩ ?_
 unfold O0 at hF
 refine ysg ⟨(L8 p0), [B1], H⟩ ?_ (h := (by generalize p0 = qp0; cases qp0 <;> kernel_rfl))
 refine Ag ?_
 refine Ag ?_
 obtain ⟨r1, c2, hF⟩ := Ab hF
 let E3 : EN := (9, .agg (Ba r1))
 obtain ⟨r3, c4, hF⟩ := Ab hF
 let E2 : EN := (13, vb (!(Pi r3 p1.Ends_)))
 let L16 : Ptr → List EN := fun z0 => (L10 z0) ++ [E3, (10, .agg (arM .u32 5 r3))] ++ L12
 refine Bs (.take 0 (.take 3 (.take 4 (.last 1 (.last 2 (.take 5 .done)))))) (by kernel_rfl) (⟨(L8 p0) ++ [E2], [B1], H⟩ : St) ?_ ?_
 refine Aq ⟨(L10 p0), [B1], H⟩ (by generalize p0 = qp0; cases qp0 <;> kernel_rfl) ?_
 refine Aq ⟨(L10 p0) ++ [(11, vl 3 0)], [B1], H⟩ (by generalize p0 = qp0; cases qp0 <;> kernel_rfl) ?_
 refine Aq ⟨(L10 p0) ++ L12, [B1], H⟩ (by generalize p0 = qp0; cases qp0 <;> kernel_rfl) ?_
 refine Br ⟨(L10 p0) ++ [E3] ++ L12, [B1], H⟩ (yc (some 9) true false (⟨(L10 p0) ++ L12, [B1], H⟩ : St) (Rq H c2) (hr := (by generalize p0 = qp0; cases qp0 <;> kernel_rfl)) (hs := (by generalize p0 = qp0; cases qp0 <;> kernel_rfl))) ?_
 refine Br ⟨(L16 p0), [B1], H⟩ (yc (some 10) true false (⟨(L10 p0) ++ [E3] ++ L12, [B1], H⟩ : St) (Pj H c4) (hr := (by generalize p0 = qp0; cases qp0 <;> kernel_rfl)) (hs := (by generalize p0 = qp0; cases qp0 <;> kernel_rfl))) ?_
 refine Aq ⟨(L16 p0) ++ [E2], [B1], H⟩ (Ro (⟨(L16 p0), [B1], H⟩ : St) (cA (P := X.P) (ty := 72) (x := (.tmp 10)) (y := (.tmp 12)) (cs := (arM .u32 5 r3)) (ds := (arM .u32 5 p1.Ends_)) (us := [.int .u32 (r3.g 0), .int .u32 (r3.g 1), .int .u32 (r3.g 2), .int .u32 (r3.g 3), .int .u32 (r3.g 4)]) (vs := [.int .u32 (p1.Ends_.g 0), .int .u32 (p1.Ends_.g 1), .int .u32 (p1.Ends_.g 2), .int .u32 (p1.Ends_.g 3), .int .u32 (p1.Ends_.g 4)]) (qs := [(r3.g 0) == (p1.Ends_.g 0), (r3.g 1) == (p1.Ends_.g 1), (r3.g 2) == (p1.Ends_.g 2), (r3.g 3) == (p1.Ends_.g 3), (r3.g 4) == (p1.Ends_.g 4)]) (by generalize p0 = qp0; cases qp0 <;> kernel_rfl) (by generalize p0 = qp0; cases qp0 <;> kernel_rfl) (by generalize p0 = qp0; cases qp0 <;> kernel_rfl) (by generalize p0 = qp0; cases qp0 <;> kernel_rfl)) rfl (some 13) (by generalize p0 = qp0; cases qp0 <;> kernel_rfl) (by generalize p0 = qp0; cases qp0 <;> kernel_rfl)) ?_
 exact yde
 rcases Ae hF with ⟨h5, hF⟩ | ⟨h5, hF⟩
 refine yT h5 S17 ?_
 refine ysg S18 ?_
 refine Au ?_
 obtain e0 := Am hF
 subst e0
 exact yp (vF)
 refine yF h5 ⟨(L8 p0), [B1], H⟩ ?_
 refine Ao ?_
 refine Ag ?_
 refine ysg ⟨(L8 p0) ++ [(5, vi 0)], [B1], H⟩ ?_ (h := (by generalize p0 = qp0; cases qp0 <;> kernel_rfl))
 refine Bt ?_
 obtain ⟨r17, hL18, hF⟩ := Ab hF
 refine Qn (fun (x : (Int)) => (⟨(L8 p0) ++ [(5, vi x)], [B1], H⟩ : St)) (Sum.elim (fun (y : Unit) => ((.exit 0, S17) : Ex × St)) (fun (y : Unit) => ((.ret, S18) : Ex × St))) hL18 (by kernel_rfl) ?_ ?_
 rintro a6 o hF
 replace hF : Fg p1 H p0 a6 = some o := hF
 let E4 : EN := (18, vb (decide (a6 < (p1.W_.length : Int))))
 let L9 : Ptr → List EN := fun z0 => (L8 z0) ++ [(5, vi a6)]
 let L13 : Ptr → List EN := fun z0 => [(22, vp z0), (23, vi a6), (24, vi (IntKind.wrap .i64 (4 * a6))), (25, vu (IntKind.wrap .u32 (IntKind.wrap .i64 (4 * a6))))]
 let L14 : Ptr → List EN := fun z0 => (L9 z0) ++ [(14, vi a6), (15, vl 3 5), (16, .one (.own 0) (.sl 1 (List.map (eI .u32) p1.W_)))]
 unfold Fg at hF
 refine Ag ?_
 refine yso ⟨(L9 p0) ++ [E4], [B1], H⟩ ?_ ?_
 refine yr 3 ⟨(L14 p0), [B1], H⟩ ?_ (h := (by generalize p0 = qp0; cases qp0 <;> kernel_rfl))
 refine Ai ⟨(L14 p0) ++ [E5], [B1], H⟩ (bV (⟨(L14 p0), [B1], H⟩ : St) p1.W_ (eI .u32) (some 17) (by generalize p0 = qp0; cases qp0 <;> kernel_rfl) (by generalize p0 = qp0; cases qp0 <;> kernel_rfl)) ?_
 refine yr 1 ⟨(L14 p0) ++ [E5, E4], [B1], H⟩ ?_ (h := (by generalize p0 = qp0; cases qp0 <;> kernel_rfl))
 exact ye
 rcases Ae hF with ⟨h7, hF⟩ | ⟨h7, hF⟩
 refine yT h7 ⟨(L9 p0), [B1], H⟩ ?_
 refine Ao ?_
 refine Ag ?_
 refine Bt ?_
 refine Ag ?_
 obtain ⟨r8, r9, c10, hF⟩ := Be hF
 let E6 : EN := (26, .tup [vu r8, vi r9])
 let L11 : Ptr → List EN := fun z0 => (L9 z0) ++ [(6, vu r8), (7, vi r9), (29, vi r9)]
 let L15 : Ptr → List EN := fun z0 => (L11 z0) ++ [(30, vF), (31, vF), (32, vu r8), (33, vl 3 5), (34, .one (.own 0) (.sl 1 (List.map (eI .u32) p1.W_))), (35, vi a6)]
 refine Aj ⟨(L9 p0) ++ [(6, vu r8), (7, vi r9)], [B1], H⟩ ?_ ?_
 refine yr 4 ⟨(L9 p0) ++ (L13 p0), [B1], H⟩ ?_ (h := (by generalize p0 = qp0; cases qp0 <;> kernel_rfl))
 refine Ai ⟨(L9 p0) ++ (L13 p0) ++ [E6], [B1], H⟩ (yc (some 26) true false (⟨(L9 p0) ++ (L13 p0), [B1], H⟩ : St) (Ox H c10) (hr := (by generalize p0 = qp0; cases qp0 <;> kernel_rfl)) (hs := (by generalize p0 = qp0; cases qp0 <;> kernel_rfl))) ?_
 refine yr 5 ⟨(L9 p0) ++ [(6, vu r8), (7, vi r9), (21, .tup [vu r8, vi r9])] ++ (L13 p0) ++ [E6, (27, vu r8), (28, vi r9)], [B1], H⟩ ?_ (h := (by generalize p0 = qp0; cases qp0 <;> kernel_rfl))
 exact ye
 refine Ag ?_
 obtain ⟨w14, hB15, hF⟩ := Ab hF
 refine Aj ⟨(L9 p0) ++ [(39, vb w14)], [B1], H⟩ ?_ ?_
 refine yr 3 ⟨(L11 p0) ++ [(30, vb (r9 != 0)), (31, vb (r9 != 0))], [B1], H⟩ ?_ (h := (by generalize p0 = qp0; cases qp0 <;> kernel_rfl))
 rcases Ae hB15 with ⟨h11, hB15⟩ | ⟨h11, hB15⟩
 refine Bd (congrArg (fun q => (⟨(L11 p0) ++ [(30, vb q), (31, vb q)], [B1], H⟩ : St)) h11) ?_
 refine yr 8 ⟨(L11 p0) ++ [(30, vT), (31, vT), (32, vN), (33, vN), (34, vN), (35, vN), (36, vN), (37, vN), (38, vN), (39, vT)], [B1], H⟩ ?_ (h := (by generalize p0 = qp0; cases qp0 <;> kernel_rfl))
 cases hB15
 exact ye
 refine Bd (congrArg (fun q => (⟨(L11 p0) ++ [(30, vb q), (31, vb q)], [B1], H⟩ : St)) h11) ?_
 refine yr 4 ⟨(L15 p0), [B1], H⟩ ?_ (h := (by generalize p0 = qp0; cases qp0 <;> kernel_rfl))
 obtain ⟨x12, h13, hB15⟩ := Ab hB15
 let E7 : EN := (36, .one .top (.rd (.own 0) (.own 0) [.int .u32 x12] 0))
 refine Ai ⟨(L15 p0) ++ [E7], [B1], H⟩ (P5 (X := X) (⟨(L15 p0), [B1], H⟩ : St) 42 35 1 h13 (eI .u32) (.own 0) (some 36) (by generalize p0 = qp0; cases qp0 <;> kernel_rfl) (by generalize p0 = qp0; cases qp0 <;> kernel_rfl) (by generalize p0 = qp0; cases qp0 <;> kernel_rfl) (by generalize p0 = qp0; cases qp0 <;> kernel_rfl)) ?_
 refine yr 3 ⟨(L15 p0) ++ [E7, (37, vu x12), (38, vb (r8 != x12)), (39, vb (r8 != x12))], [B1], H⟩ ?_ (h := (by generalize p0 = qp0; cases qp0 <;> kernel_rfl))
 cases hB15
 exact ye
 rcases Ae hF with ⟨h16, hF⟩ | ⟨h16, hF⟩
 refine yT h16 S17 ?_
 refine ysg S18 ?_
 refine Au ?_
 cases hF
 exact ⟨_, rfl, (by kernel_rfl)⟩
 refine yF h16 ⟨(L9 p0), [B1], H⟩ ?_
 refine Ao ?_
 refine aN ⟨(L8 p0) ++ [(5, vi (IntKind.wrap .i64 (a6 + 1)))], [B1], H⟩ (by generalize p0 = qp0; cases qp0 <;> kernel_rfl) ?_
 cases hF
 exact ⟨_, rfl, (by kernel_rfl)⟩
 refine yF h7 S17 ?_
 refine Ph ?_
 cases hF
 exact ⟨_, rfl, (by kernel_rfl)⟩
 rcases Ug hF with ⟨r17', rfl, hF⟩ | ⟨r17', rfl, hF⟩
 refine bT (i := 0) (s := S17) (by kernel_rfl) ?_
 refine Qm ?_
 refine ysg ⟨[(4, vT)], [], H⟩ ?_
 refine Au ?_
 obtain e0 := Am hF
 subst e0
 exact yp (vT)
 refine oC (s := S18) (by kernel_rfl) ?_
 obtain e0 := Am hF
 subst e0
 exact yp (vF)
noncomputable def M2 (H : Ah) (p0 : T_law04_Case) (p1 : T_instr_Instr) : Option (Ah × Bool) :=
  Cc (Nj H) fun H3 r1 =>
  if (!r1) = true then (some (H3, false))
  else (Cc (Dq (T_ref02_Instr.mk p1.Op_ p1.A_ p1.B_ p1.C_ p1.Imm_)) fun r5 r6 =>
  Af (Mx p0) fun r8 =>
  if ((!r8) || ((r6 != 0) || (decide (p0.L_.Code_ < 4)))) = true then (some (H3, true))
  else (Af (Rm .u32 p0.S_.Entry_ p0.L_.Code_) fun v13 =>
  lW (Nk H3 (T_law04_Case.mk p0.L_ (T_cpu_Setup.mk (IntKind.wrap .u32 ((IntKind.wrap .u32 (Int.tdiv v13 4)) * 4)) p0.S_.Vector_ p0.S_.Guard_ p0.S_.Limit_) p0.Words_ p0.R_ p0.Input_)) fun H20 r15 r16 r17 r18 =>
  if r15.isNil = true then (some (H20, false))
  else (Cc (Cv H20 r16 (IntKind.wrap .u32 ((IntKind.wrap .u32 (Int.tdiv v13 4)) * 4)) ([r5] : List Int)) fun H24 r22 =>
  Cc (Ke r18 (IntKind.wrap .u32 ((IntKind.wrap .u32 (Int.tdiv v13 4)) * 4)) ([r5] : List Int)) fun r25 r26 =>
  Cc (Fy r17 r25) fun r28 r29 =>
  Cc (Fb H24 r15 r16) fun H33 r31 =>
  Af (if (r31 == r28.State_) = true then (Af (Oz H33 r15 r28) fun r35 =>
  if r35 = true then (Af (O0 H33 r16 r29) fun r38 =>
  some r38) else (some false)) else (some false)) fun w40 =>
  some (H33, w40))))
theorem ok_law04_CpuOnes (H : Ah) {p0 : T_law04_Case} {p1 : T_instr_Instr} {ra : Bool} {Hr : Ah} (hF : M2 H p0 p1 = some (Hr, ra)) : evS X 11 [.agg (Dj p0), .agg (Ap p1)] H = some (.one .top (.bool ra), Hr) := by
 let B1 : EB := (2, (Dj p0))
 let B2 : EB := (3, (Ap p1))
 let E5 : EN := (30, .agg (Dj p0))
 let E11 : EN := (76, .one .top .junk)
 let E15 : EN := (11, vl 11 0)
 let E16 : EN := (12, vl 12 0)
 let E23 : EN := (89, vl 11 19)
 let L32 : List EN := [(2, vl 2 0), (3, vl 3 0)]
 let L34 : List EN := [(96, vF), (97, vF), (98, vN)]
 let L37 : List EN := L34 ++ [(99, vN), (100, vN)]
 let L42 : List EN := [(16, vl 3 0), (17, vi p1.Op_), (18, vl 3 1), (19, vi p1.A_), (20, vl 3 2), (21, vi p1.B_), (22, vl 3 3), (23, vi p1.C_), (24, vl 3 4), (25, vi p1.Imm_), (26, .agg (Ap p1))]
 let L44 : List EN := [(36, vT), (37, vT), (38, vN), (39, vN), (40, vN), (41, vN), (42, vT)]
 refine yf Try.func11 false ⟨[(0, .agg (Dj p0)), (1, .agg (Ap p1))], [], H⟩ ?_
 unfold M2 at hF
 refine ysg ⟨L32, [B1, B2], H⟩ ?_
 refine Ag ?_
 refine Ag ?_
 obtain ⟨H3, r1, c2, hF⟩ := Be hF
 refine Aj ⟨L32 ++ [(14, vb (!r1))], [B1, B2], H3⟩ ?_ ?_
 refine Ai ⟨L32 ++ [(13, vb r1)], [B1, B2], H3⟩ (yc (some 13) false false (⟨L32, [B1, B2], H⟩ : St) (Y4 H c2)) ?_
 refine yr 1 ⟨L32 ++ [(13, vb r1), (14, vb (!r1))], [B1, B2], H3⟩ ?_
 exact ye
 rcases Ae hF with ⟨h4, hF⟩ | ⟨h4, hF⟩
 refine yT h4 ⟨[], [], H3⟩ ?_
 refine ysg ⟨[(4, vF)], [], H3⟩ ?_
 refine Au ?_
 obtain ⟨e0, e1⟩ := Ar hF
 subst e0
 subst e1
 exact yi (vF)
 refine yF h4 ⟨L32, [B1, B2], H3⟩ ?_
 refine Ao ?_
 refine Ag ?_
 obtain ⟨r5, r6, c7, hF⟩ := Be hF
 let E3 : EN := (6, vi r6)
 let E4 : EN := (27, .tup [vu r5, vi r6])
 let L26 : List EN := [(2, vl 2 0), (5, vu r5)]
 let L40 : List EN := L26 ++ [(43, vl 2 5), (44, vl 2 5), (45, vu p0.S_.Entry_), (46, vl 2 0), (47, vl 2 0), (48, vu p0.L_.Code_)]
 refine Aj ⟨L26 ++ [E3], [B1], H3⟩ ?_ ?_
 refine yr 11 ⟨L32 ++ L42, [B1, B2], H3⟩ ?_
 refine Ai ⟨L32 ++ L42 ++ [E4], [B1, B2], H3⟩ (yc (some 27) true false (⟨L32 ++ L42, [B1, B2], H3⟩ : St) (Qy H3 c7)) ?_
 refine yr 5 ⟨L32 ++ [(5, vu r5), E3, (15, .tup [vu r5, vi r6])] ++ L42 ++ [E4, (28, vu r5), (29, vi r6)], [B1, B2], H3⟩ ?_
 exact ye
 refine Ag ?_
 refine Ag ?_
 obtain ⟨r8, c9, hF⟩ := Ab hF
 let L33 : List EN := L26 ++ [E3, E5, (31, vb r8)]
 let L39 : List EN := L33 ++ [(32, vF), (33, vF), (34, vi r6)]
 refine Aj ⟨L26 ++ [(42, vb ((!r8) || ((r6 != 0) || (decide (p0.L_.Code_ < 4)))))], [B1], H3⟩ ?_ ?_
 refine yr 1 ⟨L26 ++ [E3, E5], [B1], H3⟩ ?_
 refine Ai ⟨L33, [B1], H3⟩ (yc (some 31) true false (⟨L26 ++ [E3, E5], [B1], H3⟩ : St) (cF H3 c9)) ?_
 refine yr 2 ⟨L33 ++ [(32, vb (!r8)), (33, vb (!r8))], [B1], H3⟩ ?_
 rcases Ax (!r8) with h10 | h10
 refine Bd (congrArg (fun q => (⟨L33 ++ [(32, vb q), (33, vb q)], [B1], H3⟩ : St)) h10) ?_
 refine yr 9 ⟨L33 ++ [(32, vT), (33, vT), (34, vN), (35, vN)] ++ L44, [B1], H3⟩ ?_
 refine Bw (congrArg (fun q0 => (⟨L26 ++ [(42, vb q0)], [B1], H3⟩ : St)) (show true = ((!r8) || ((r6 != 0) || (decide (p0.L_.Code_ < 4)))) by simp [h10])) ?_
 exact ye
 refine Bd (congrArg (fun q => (⟨L33 ++ [(32, vb q), (33, vb q)], [B1], H3⟩ : St)) h10) ?_
 refine yr 4 ⟨L39 ++ [(35, vb (r6 != 0)), (36, vb (r6 != 0)), (37, vb (r6 != 0))], [B1], H3⟩ ?_
 rcases Ax (r6 != 0) with h11 | h11
 refine Bd (congrArg (fun q => (⟨L39 ++ [(35, vb q), (36, vb q), (37, vb q)], [B1], H3⟩ : St)) h11) ?_
 refine yr 5 ⟨L39 ++ [(35, vT)] ++ L44, [B1], H3⟩ ?_
 refine Bw (congrArg (fun q0 => (⟨L26 ++ [(42, vb q0)], [B1], H3⟩ : St)) (show true = ((!r8) || ((r6 != 0) || (decide (p0.L_.Code_ < 4)))) by simp [h10, h11])) ?_
 exact ye
 refine Bd (congrArg (fun q => (⟨L39 ++ [(35, vb q), (36, vb q), (37, vb q)], [B1], H3⟩ : St)) h11) ?_
 refine yr 5 ⟨L39 ++ [(35, vF), (36, vF), (37, vF), (38, vl 2 0), (39, vl 2 0), (40, vu p0.L_.Code_), (41, vb (decide (p0.L_.Code_ < 4))), (42, vb (decide (p0.L_.Code_ < 4)))], [B1], H3⟩ ?_
 refine Bw (congrArg (fun q0 => (⟨L26 ++ [(42, vb q0)], [B1], H3⟩ : St)) (show (decide (p0.L_.Code_ < 4)) = ((!r8) || ((r6 != 0) || (decide (p0.L_.Code_ < 4)))) by simp [h10, h11])) ?_
 exact ye
 rcases Ae hF with ⟨h12, hF⟩ | ⟨h12, hF⟩
 refine yT h12 ⟨[], [], H3⟩ ?_
 refine ysg ⟨[(4, vT)], [], H3⟩ ?_
 refine Au ?_
 obtain ⟨e0, e1⟩ := Ar hF
 subst e0
 subst e1
 exact yi (vT)
 refine yF h12 ⟨L26, [B1], H3⟩ ?_
 refine Ao ?_
 refine Ag ?_
 obtain ⟨v13, h14, hF⟩ := Ab hF
 let B6 : EB := (2, ([(.top, .int .u32 p0.L_.Code_), (.top, .int .u32 p0.L_.Tables_), (.top, .int .u32 p0.L_.Data_), (.top, .int .u32 p0.L_.Heap_), (.top, .int .u32 p0.L_.Stack_), (.top, .int .u32 (IntKind.wrap .u32 ((IntKind.wrap .u32 (Int.tdiv v13 4)) * 4))), (.top, .int .u32 p0.S_.Vector_), (.top, .int .u32 p0.S_.Guard_), (.top, .int .u32 p0.S_.Limit_), ((.own 0), .sl 1 (List.map (eI .u32) p0.Words_))] ++ arM .u32 16 p0.R_ ++ [((.own 0), .sl 1 (List.map (eI .i32) p0.Input_))]))
 let E9 : EN := (55, .agg ([(.top, .int .u32 p0.L_.Code_), (.top, .int .u32 p0.L_.Tables_), (.top, .int .u32 p0.L_.Data_), (.top, .int .u32 p0.L_.Heap_), (.top, .int .u32 p0.L_.Stack_), (.top, .int .u32 (IntKind.wrap .u32 ((IntKind.wrap .u32 (Int.tdiv v13 4)) * 4))), (.top, .int .u32 p0.S_.Vector_), (.top, .int .u32 p0.S_.Guard_), (.top, .int .u32 p0.S_.Limit_), ((.own 0), .sl 1 (List.map (eI .u32) p0.Words_))] ++ arM .u32 16 p0.R_ ++ [((.own 0), .sl 1 (List.map (eI .i32) p0.Input_))]))
 refine Aj ⟨L26, [B6], H3⟩ ?_ ?_
 refine yr 6 ⟨L40, [B1], H3⟩ ?_
 refine Ai ⟨L40 ++ [(49, vu v13)], [B1], H3⟩ (Lx (⟨L40, [B1], H3⟩ : St) .u32 h14 (bW (P := X.P) (ty := 35) (x := (.tmp 45)) (y := (.tmp 48)) (m := .top) (m' := .top) (k := .u32) (a := p0.S_.Entry_) (b := p0.L_.Code_)) (some 49) (by kernel_rfl) (by kernel_rfl)) ?_
 refine yr 5 ⟨L40 ++ [(49, vu v13), (50, vu (IntKind.wrap .u32 (Int.tdiv v13 4))), (51, vu (IntKind.wrap .u32 ((IntKind.wrap .u32 (Int.tdiv v13 4)) * 4))), (52, vl 2 5), (53, vl 2 5)], [B6], H3⟩ ?_
 exact ye
 refine Ag ?_
 obtain ⟨H20, r15, r16, r17, r18, c19, hF⟩ := kA hF
 let B7 : EB := (9, (Al r17))
 let B8 : EB := (10, (Ac r18))
 let E13 : Ptr → EN := fun z0 => (7, vp z0)
 let E14 : Ptr → EN := fun z0 => (8, vp z0)
 let B20 : EB := (9, (arM .u32 16 r17.R_ ++ [(.top, .int .u32 r17.PC_), (.top, .int .u32 r17.EPC_), (.top, .int .u32 r17.Cause_), (.top, .int .i64 r17.State_), (.top, .int .i64 r17.Why_), (.top, .int .i64 r17.Steps_), (.top, .int .i64 r17.Taken_), (.top, .junk), (.top, .int .u32 r17.Entry_), (.top, .int .u32 r17.Vector_), (.top, .int .u32 r17.Guard_), (.top, .int .u32 r17.Limit_), ((.own 0), .sl 1 (List.map (eI .i32) r17.Input_))]))
 let E21 : EN := (81, .agg (arM .u32 16 r17.R_ ++ [(.top, .int .u32 r17.PC_), (.top, .int .u32 r17.EPC_), (.top, .int .u32 r17.Cause_), (.top, .int .i64 r17.State_), (.top, .int .i64 r17.Why_), (.top, .int .i64 r17.Steps_), (.top, .int .i64 r17.Taken_), (.top, .junk), (.top, .int .u32 r17.Entry_), (.top, .int .u32 r17.Vector_), (.top, .int .u32 r17.Guard_), (.top, .int .u32 r17.Limit_), ((.own 0), .sl 1 (List.map (eI .i32) r17.Input_))]))
 let L27 : Ptr → Ptr → List EN := fun z0 z1 => [(E13 z0), (E14 z1), E15, E16, (86, vp z0), (87, vp z1)]
 let L29 : Ptr → Ptr → List EN := fun z0 z1 => [(E13 z0), (E14 z1), (9, vl 9 0), (10, vl 10 0)]
 let L31 : Ptr → Ptr → List EN := fun z0 z1 => L26 ++ (L29 z0 z1)
 let L41 : List EN := [(71, .agg (Ac r18)), (72, vl 2 5), (73, vl 2 5), (74, vu (IntKind.wrap .u32 ((IntKind.wrap .u32 (Int.tdiv v13 4)) * 4))), (75, vu r5)]
 let L43 : Ptr → Ptr → List EN := fun z0 z1 => (L31 z0 z1) ++ [(63, vp z1), (64, vl 2 5), (65, vl 2 5), (66, vu (IntKind.wrap .u32 ((IntKind.wrap .u32 (Int.tdiv v13 4)) * 4))), (67, vu r5)]
 refine Aj ⟨(L31 r15 r16), [B6, B7, B8], H20⟩ ?_ ?_
 refine yr 1 ⟨L26 ++ [E9], [B6], H3⟩ ?_
 refine Ai ⟨L26 ++ [E9, (56, .tup [vp r15, vp r16, .agg (Al r17), .agg (Ac r18)])], [B6], H20⟩ (yc (some 56) false false (⟨L26 ++ [E9], [B6], H3⟩ : St) (Y7 H3 c19) (hr := (by generalize r15 = qp0; generalize r16 = qp1; cases qp0 <;> cases qp1 <;> kernel_rfl)) (hs := (by generalize r15 = qp0; generalize r16 = qp1; cases qp0 <;> cases qp1 <;> kernel_rfl))) ?_
 refine yr 11 ⟨(L31 r15 r16) ++ [(54, .tup [vp r15, vp r16, .agg (arM .u32 16 r17.R_ ++ [(.top, .int .u32 r17.PC_), (.top, .int .u32 r17.EPC_), (.top, .int .u32 r17.Cause_), (.top, .int .i64 r17.State_), (.top, .int .i64 r17.Why_), (.top, .int .i64 r17.Steps_), (.top, .int .i64 r17.Taken_), (.top, .junk), (.top, .int .u32 r17.Entry_), (.top, .int .u32 r17.Vector_), (.top, .int .u32 r17.Guard_), (.top, .int .u32 r17.Limit_), ((.own 0), .sl 1 (List.map (eI .i32) r17.Input_))]), .agg (Ac r18)]), E9, (56, .tup [vp r15, vp r16, .agg (arM .u32 16 r17.R_ ++ [(.top, .int .u32 r17.PC_), (.top, .int .u32 r17.EPC_), (.top, .int .u32 r17.Cause_), (.top, .int .i64 r17.State_), (.top, .int .i64 r17.Why_), (.top, .int .i64 r17.Steps_), (.top, .int .i64 r17.Taken_), (.top, .junk), (.top, .int .u32 r17.Entry_), (.top, .int .u32 r17.Vector_), (.top, .int .u32 r17.Guard_), (.top, .int .u32 r17.Limit_), ((.own 0), .sl 1 (List.map (eI .i32) r17.Input_))]), .agg (Ac r18)]), (57, vp r15), (58, vp r16), (59, .agg (arM .u32 16 r17.R_ ++ [(.top, .int .u32 r17.PC_), (.top, .int .u32 r17.EPC_), (.top, .int .u32 r17.Cause_), (.top, .int .i64 r17.State_), (.top, .int .i64 r17.Why_), (.top, .int .i64 r17.Steps_), (.top, .int .i64 r17.Taken_), (.top, .junk), (.top, .int .u32 r17.Entry_), (.top, .int .u32 r17.Vector_), (.top, .int .u32 r17.Guard_), (.top, .int .u32 r17.Limit_), ((.own 0), .sl 1 (List.map (eI .i32) r17.Input_))])), (60, .agg (Ac r18))], [B6, B7, B8], H20⟩ ?_ (h := (by generalize r15 = qp0; generalize r16 = qp1; cases qp0 <;> cases qp1 <;> kernel_rfl))
 exact ye
 refine Ag ?_
 refine yso ⟨(L31 r15 r16) ++ [(62, vb r15.isNil)], [B6, B7, B8], H20⟩ ?_ ?_
 refine yr 1 ⟨(L31 r15 r16) ++ [(61, vp r15)], [B6, B7, B8], H20⟩ ?_ (h := (by generalize r15 = qp0; generalize r16 = qp1; cases qp0 <;> cases qp1 <;> kernel_rfl))
 refine Ai ⟨(L31 r15 r16) ++ [(61, vp r15), (62, vb r15.isNil)], [B6, B7, B8], H20⟩ (Ro (⟨(L31 r15 r16) ++ [(61, vp r15)], [B6, B7, B8], H20⟩ : St) (Wv (P := X.P) (ty := 102) (x := (.tmp 61)) (y := (.const (.pointer none))) (m := .top) (m' := .top) r15 (by generalize r15 = qp0; generalize r16 = qp1; cases qp0 <;> cases qp1 <;> kernel_rfl) (by generalize r15 = qp0; generalize r16 = qp1; cases qp0 <;> cases qp1 <;> kernel_rfl)) rfl (some 62) (by generalize r15 = qp0; generalize r16 = qp1; cases qp0 <;> cases qp1 <;> kernel_rfl) (by generalize r15 = qp0; generalize r16 = qp1; cases qp0 <;> cases qp1 <;> kernel_rfl)) ?_
 exact ye
 rcases Ae hF with ⟨h21, hF⟩ | ⟨h21, hF⟩
 refine yT h21 ⟨[], [], H20⟩ ?_
 refine ysg ⟨[(4, vF)], [], H20⟩ ?_
 refine Au ?_
 obtain ⟨e0, e1⟩ := Ar hF
 subst e0
 subst e1
 exact yi (vF)
 refine yF h21 ⟨(L31 r15 r16), [B6, B7, B8], H20⟩ ?_
 refine Ao ?_
 refine Ag ?_
 obtain ⟨H24, r22, c23, hF⟩ := Be hF
 refine Aj ⟨(L31 r15 r16), [B6, B7, B8], H24⟩ ?_ ?_
 refine yr 6 ⟨(L43 r15 r16) ++ [(68, .one (.own 1) (.sl 1 (List.map (eI .u32) ([r5] : List Int))))], [B6, B7, B8], H20⟩ ?_ (h := (by generalize r15 = qp0; generalize r16 = qp1; cases qp0 <;> cases qp1 <;> kernel_rfl))
 refine Ai ⟨(L43 r15 r16) ++ [(68, .one .top .junk), (69, vi r22)], [B6, B7, B8], H24⟩ (yc (some 69) false true (⟨(L43 r15 r16) ++ [(68, .one .top .junk)], [B6, B7, B8], H20⟩ : St) (Ov H20 c23) (hr := (by generalize r15 = qp0; generalize r16 = qp1; cases qp0 <;> cases qp1 <;> kernel_rfl)) (hs := (by generalize r15 = qp0; generalize r16 = qp1; cases qp0 <;> cases qp1 <;> kernel_rfl))) ?_
 exact ye
 refine Ag ?_
 obtain ⟨r25, r26, c27, hF⟩ := Be hF
 let B10 : EB := (10, (Ac r25))
 let E12 : EN := (77, .tup [.agg (Ac r25), vi r26])
 let E19 : EN := (82, .agg (Ac r25))
 refine Aj ⟨(L29 r15 r16), [B7, B10], H24⟩ ?_ ?_
 refine yr 6 ⟨(L31 r15 r16) ++ L41 ++ [(76, .one (.own 1) (.sl 1 (List.map (eI .u32) ([r5] : List Int))))], [B6, B7, B8], H24⟩ ?_ (h := (by generalize r15 = qp0; generalize r16 = qp1; cases qp0 <;> cases qp1 <;> kernel_rfl))
 refine Ai ⟨(L31 r15 r16) ++ L41 ++ [E11, E12], [B6, B7, B8], H24⟩ (yc (some 77) true true (⟨(L31 r15 r16) ++ L41 ++ [E11], [B6, B7, B8], H24⟩ : St) (Wf H24 c27) (hr := (by generalize r15 = qp0; generalize r16 = qp1; cases qp0 <;> cases qp1 <;> kernel_rfl)) (hs := (by generalize r15 = qp0; generalize r16 = qp1; cases qp0 <;> cases qp1 <;> kernel_rfl))) ?_
 refine yr 4 ⟨(L31 r15 r16) ++ [(70, .tup [.agg (Ac r25), vi r26])] ++ L41 ++ [E11, E12, (78, .agg (Ac r25)), (79, vi r26)], [B6, B7, B10], H24⟩ ?_ (h := (by generalize r15 = qp0; generalize r16 = qp1; cases qp0 <;> cases qp1 <;> kernel_rfl))
 exact ye
 refine Ag ?_
 obtain ⟨r28, r29, c30, hF⟩ := Be hF
 let B17 : EB := (11, (Ak r28))
 let B18 : EB := (12, (Ac r29))
 let E22 : EN := (83, .tup [.agg (Ak r28), .agg (Ac r29)])
 let E24 : EN := (90, vi r28.State_)
 refine Aj ⟨[(E13 r15), (E14 r16), E15, E16], [B17, B18], H24⟩ ?_ ?_
 refine yr 2 ⟨(L29 r15 r16) ++ [(81, .agg (Al r17)), E19], [B20, B10], H24⟩ ?_ (h := (by generalize r15 = qp0; generalize r16 = qp1; cases qp0 <;> cases qp1 <;> kernel_rfl))
 refine Ai ⟨(L29 r15 r16) ++ [E21, E19, E22], [B20, B10], H24⟩ (yc (some 83) true true (⟨(L29 r15 r16) ++ [E21, E19], [B20, B10], H24⟩ : St) (Zs H24 c30) (hr := (by generalize r15 = qp0; generalize r16 = qp1; cases qp0 <;> cases qp1 <;> kernel_rfl)) (hs := (by generalize r15 = qp0; generalize r16 = qp1; cases qp0 <;> cases qp1 <;> kernel_rfl))) ?_
 refine yr 7 ⟨(L29 r15 r16) ++ [E15, E16, (80, .tup [.agg (Ak r28), .agg (Ac r29)]), E21, E19, E22, (84, .agg (Ak r28)), (85, .agg (Ac r29))], [B20, B10, B17, B18], H24⟩ ?_ (h := (by generalize r15 = qp0; generalize r16 = qp1; cases qp0 <;> cases qp1 <;> kernel_rfl))
 exact ye
 refine Ag ?_
 obtain ⟨H33, r31, c32, hF⟩ := Be hF
 let E25 : EN := (91, vb (r31 == r28.State_))
 let L28 : Ptr → Ptr → List EN := fun z0 z1 => (L27 z0 z1) ++ [(88, vi r31), E23, E24]
 let L30 : Ptr → Ptr → List EN := fun z0 z1 => (L28 z0 z1) ++ [(91, vT), (92, vT), (93, vp z0), (94, .agg (Ak r28))]
 let L35 : Ptr → Ptr → List EN := fun z0 z1 => (L28 z0 z1) ++ [(91, vF), (92, vF), (93, vN)]
 let L36 : Ptr → Ptr → List EN := fun z0 z1 => (L35 z0 z1) ++ [(94, vN), (95, vN)]
 let L38 : Ptr → Ptr → List EN := fun z0 z1 => (L30 z0 z1) ++ [(95, vT), (96, vT), (97, vT), (98, vp z1), (99, .agg (Ac r29))]
 obtain ⟨w40, hB41, hF⟩ := Ab hF
 refine Bs (.take 0 (.take 1 (.take 3 (.take 4 (.last 2 (.take 5 (.take 6 (.take 7 (.take 8 (.last 9 (.take 10 (.take 11 (.take 12 (.take 13 (.last 14 (.take 15 (.take 16 .done))))))))))))))))) (by kernel_rfl) (⟨[(4, vb w40)], [], H33⟩ : St) ?_ ?_
 refine Aq ⟨[(E13 r15), (E14 r16), E15, E16, (86, vp r15)], [B17, B18], H24⟩ (by generalize r15 = qp0; generalize r16 = qp1; cases qp0 <;> cases qp1 <;> kernel_rfl) ?_
 refine Aq ⟨(L27 r15 r16), [B17, B18], H24⟩ (by generalize r15 = qp0; generalize r16 = qp1; cases qp0 <;> cases qp1 <;> kernel_rfl) ?_
 refine Aq ⟨(L27 r15 r16) ++ [E23], [B17, B18], H24⟩ (by generalize r15 = qp0; generalize r16 = qp1; cases qp0 <;> cases qp1 <;> kernel_rfl) ?_
 refine Aq ⟨(L27 r15 r16) ++ [E23, E24], [B17, B18], H24⟩ (by generalize r15 = qp0; generalize r16 = qp1; cases qp0 <;> cases qp1 <;> kernel_rfl) ?_
 refine Br ⟨(L28 r15 r16), [B17, B18], H33⟩ (yc (some 88) false false (⟨(L27 r15 r16) ++ [E23, E24], [B17, B18], H24⟩ : St) (Qx H24 c32) (hr := (by generalize r15 = qp0; generalize r16 = qp1; cases qp0 <;> cases qp1 <;> kernel_rfl)) (hs := (by generalize r15 = qp0; generalize r16 = qp1; cases qp0 <;> cases qp1 <;> kernel_rfl))) ?_
 refine Aq ⟨(L28 r15 r16) ++ [E25], [B17, B18], H33⟩ (by generalize r15 = qp0; generalize r16 = qp1; cases qp0 <;> cases qp1 <;> kernel_rfl) ?_
 refine Aq ⟨(L28 r15 r16) ++ [E25, (92, vb (r31 == r28.State_))], [B17, B18], H33⟩ (by generalize r15 = qp0; generalize r16 = qp1; cases qp0 <;> cases qp1 <;> kernel_rfl) ?_
 rcases Ae hB41 with ⟨h34, hB41⟩ | ⟨h34, hB41⟩
 refine Fi (congrArg (fun q => (⟨(L28 r15 r16) ++ [(91, vb q), (92, vb q)], [B17, B18], H33⟩ : St)) h34) ?_
 refine Aq ⟨(L28 r15 r16) ++ [(91, vT), (92, vT), (93, vp r15)], [B17, B18], H33⟩ (by generalize r15 = qp0; generalize r16 = qp1; cases qp0 <;> cases qp1 <;> kernel_rfl) ?_
 refine Aq ⟨(L30 r15 r16), [B17, B18], H33⟩ (by generalize r15 = qp0; generalize r16 = qp1; cases qp0 <;> cases qp1 <;> kernel_rfl) ?_
 obtain ⟨r35, c36, hB41⟩ := Ab hB41
 refine Br ⟨(L30 r15 r16) ++ [(95, vb r35)], [B17, B18], H33⟩ (yc (some 95) true false (⟨(L30 r15 r16), [B17, B18], H33⟩ : St) (Zt H33 c36) (hr := (by generalize r15 = qp0; generalize r16 = qp1; cases qp0 <;> cases qp1 <;> kernel_rfl)) (hs := (by generalize r15 = qp0; generalize r16 = qp1; cases qp0 <;> cases qp1 <;> kernel_rfl))) ?_
 refine Aq ⟨(L30 r15 r16) ++ [(95, vb r35), (96, vb r35)], [B17, B18], H33⟩ (by generalize r15 = qp0; generalize r16 = qp1; cases qp0 <;> cases qp1 <;> kernel_rfl) ?_
 refine Aq ⟨(L30 r15 r16) ++ [(95, vb r35), (96, vb r35), (97, vb r35)], [B17, B18], H33⟩ (by generalize r15 = qp0; generalize r16 = qp1; cases qp0 <;> cases qp1 <;> kernel_rfl) ?_
 rcases Ae hB41 with ⟨h37, hB41⟩ | ⟨h37, hB41⟩
 refine Fi (congrArg (fun q => (⟨(L30 r15 r16) ++ [(95, vb q), (96, vb q), (97, vb q)], [B17, B18], H33⟩ : St)) h37) ?_
 refine Aq ⟨(L30 r15 r16) ++ [(95, vT), (96, vT), (97, vT), (98, vp r16)], [B17, B18], H33⟩ (by generalize r15 = qp0; generalize r16 = qp1; cases qp0 <;> cases qp1 <;> kernel_rfl) ?_
 refine Aq ⟨(L38 r15 r16), [B17, B18], H33⟩ (by generalize r15 = qp0; generalize r16 = qp1; cases qp0 <;> cases qp1 <;> kernel_rfl) ?_
 obtain ⟨r38, c39, hB41⟩ := Ab hB41
 refine Br ⟨(L38 r15 r16) ++ [(100, vb r38)], [B17, B18], H33⟩ (yc (some 100) true false (⟨(L38 r15 r16), [B17, B18], H33⟩ : St) (Zu H33 c39) (hr := (by generalize r15 = qp0; generalize r16 = qp1; cases qp0 <;> cases qp1 <;> kernel_rfl)) (hs := (by generalize r15 = qp0; generalize r16 = qp1; cases qp0 <;> cases qp1 <;> kernel_rfl))) ?_
 refine Aq ⟨(L38 r15 r16) ++ [(100, vb r38), (101, vb r38)], [B17, B18], H33⟩ (by generalize r15 = qp0; generalize r16 = qp1; cases qp0 <;> cases qp1 <;> kernel_rfl) ?_
 refine Aq ⟨[(4, vb r38)] ++ (L38 r15 r16) ++ [(100, vb r38), (101, vb r38)], [B17, B18], H33⟩ (by generalize r15 = qp0; generalize r16 = qp1; cases qp0 <;> cases qp1 <;> kernel_rfl) ?_
 cases hB41
 exact yde
 refine Fi (congrArg (fun q => (⟨(L30 r15 r16) ++ [(95, vb q), (96, vb q), (97, vb q)], [B17, B18], H33⟩ : St)) h37) ?_
 refine Aq ⟨(L30 r15 r16) ++ [(95, vF)] ++ L34, [B17, B18], H33⟩ (by generalize r15 = qp0; generalize r16 = qp1; cases qp0 <;> cases qp1 <;> kernel_rfl) ?_
 refine Aq ⟨(L30 r15 r16) ++ [(95, vF)] ++ L34 ++ [(99, vN)], [B17, B18], H33⟩ (by generalize r15 = qp0; generalize r16 = qp1; cases qp0 <;> cases qp1 <;> kernel_rfl) ?_
 refine Br ⟨(L30 r15 r16) ++ [(95, vF)] ++ L37, [B17, B18], H33⟩ (by generalize r15 = qp0; generalize r16 = qp1; cases qp0 <;> cases qp1 <;> kernel_rfl) ?_
 refine Aq ⟨(L30 r15 r16) ++ [(95, vF)] ++ L37 ++ [(101, vF)], [B17, B18], H33⟩ (by generalize r15 = qp0; generalize r16 = qp1; cases qp0 <;> cases qp1 <;> kernel_rfl) ?_
 refine Aq ⟨[(4, vF)] ++ (L30 r15 r16) ++ [(95, vF)] ++ L37 ++ [(101, vF)], [B17, B18], H33⟩ (by generalize r15 = qp0; generalize r16 = qp1; cases qp0 <;> cases qp1 <;> kernel_rfl) ?_
 cases hB41
 exact yde
 refine Fi (congrArg (fun q => (⟨(L28 r15 r16) ++ [(91, vb q), (92, vb q)], [B17, B18], H33⟩ : St)) h34) ?_
 refine Aq ⟨(L35 r15 r16), [B17, B18], H33⟩ (by generalize r15 = qp0; generalize r16 = qp1; cases qp0 <;> cases qp1 <;> kernel_rfl) ?_
 refine Aq ⟨(L35 r15 r16) ++ [(94, vN)], [B17, B18], H33⟩ (by generalize r15 = qp0; generalize r16 = qp1; cases qp0 <;> cases qp1 <;> kernel_rfl) ?_
 refine Br ⟨(L36 r15 r16), [B17, B18], H33⟩ (by generalize r15 = qp0; generalize r16 = qp1; cases qp0 <;> cases qp1 <;> kernel_rfl) ?_
 refine Aq ⟨(L36 r15 r16) ++ [(96, vF)], [B17, B18], H33⟩ (by generalize r15 = qp0; generalize r16 = qp1; cases qp0 <;> cases qp1 <;> kernel_rfl) ?_
 refine Aq ⟨(L36 r15 r16) ++ [(96, vF), (97, vF)], [B17, B18], H33⟩ (by generalize r15 = qp0; generalize r16 = qp1; cases qp0 <;> cases qp1 <;> kernel_rfl) ?_
 refine Aq ⟨(L36 r15 r16) ++ L34, [B17, B18], H33⟩ (by generalize r15 = qp0; generalize r16 = qp1; cases qp0 <;> cases qp1 <;> kernel_rfl) ?_
 refine Aq ⟨(L36 r15 r16) ++ L34 ++ [(99, vN)], [B17, B18], H33⟩ (by generalize r15 = qp0; generalize r16 = qp1; cases qp0 <;> cases qp1 <;> kernel_rfl) ?_
 refine Br ⟨(L36 r15 r16) ++ L37, [B17, B18], H33⟩ (by generalize r15 = qp0; generalize r16 = qp1; cases qp0 <;> cases qp1 <;> kernel_rfl) ?_
 refine Aq ⟨(L36 r15 r16) ++ L37 ++ [(101, vF)], [B17, B18], H33⟩ (by generalize r15 = qp0; generalize r16 = qp1; cases qp0 <;> cases qp1 <;> kernel_rfl) ?_
 refine Aq ⟨[(4, vF)] ++ (L36 r15 r16) ++ L37 ++ [(101, vF)], [B17, B18], H33⟩ (by generalize r15 = qp0; generalize r16 = qp1; cases qp0 <;> cases qp1 <;> kernel_rfl) ?_
 cases hB41
 exact yde
 refine Au ?_
 obtain ⟨e0, e1⟩ := Ar hF
 subst e0
 subst e1
 exact yi (vb w40)
end Go.Proofs.Abs
