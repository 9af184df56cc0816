import Derived.Test.YtjheniapmdcelaaCpuStepsF2
set_option linter.unusedVariables false
set_option linter.unusedSimpArgs false
set_option linter.unusedSectionVars false
namespace Go.Proofs.Abs
open Go Go.Proofs
set_option linter.unusedVariables false
set_option maxRecDepth 100000
set_option maxHeartbeats 0
noncomputable def I3 (j1 : Int) (j2 : T_ref04_Cpu) : Option (T_ref04_Cpu) :=
  some (T_ref04_Cpu.mk j2.R_ j1 j2.EPC_ j2.Cause_ j2.State_ j2.Why_ j2.Steps_ j2.Taken_ j2.Out_ j2.Entry_ j2.Vector_ j2.Guard_ j2.Limit_ j2.Input_)
noncomputable def I4 (j4 : Int) (j5 : T_ref04_Cpu) : Option (T_ref04_Cpu) :=
  I3 j4 j5
noncomputable def I5 (p0 : T_ref04_Cpu) (j7 : T_ref04_Cpu) : Option (T_ref04_Cpu) :=
  I4 (IntKind.wrap .u32 (p0.PC_ + 4)) j7
noncomputable def I6 (p0 : T_ref04_Cpu) (j12 : T_ref04_Cpu) : Option (T_ref04_Cpu) :=
  I5 p0 j12
noncomputable def I7 (p0 : T_ref04_Cpu) (j23 : T_ref04_Cpu) : Option (T_ref04_Cpu) :=
  I6 p0 j23
noncomputable def I8 (p0 : T_ref04_Cpu) (j29 : T_ref04_Cpu) : Option (T_ref04_Cpu) :=
  I7 p0 j29
noncomputable def I9 (p0 : T_ref04_Cpu) (j40 : T_ref04_Cpu) : Option (T_ref04_Cpu) :=
  I8 p0 j40
noncomputable def Ja (p0 : T_ref04_Cpu) (j45 : T_ref04_Cpu) : Option (T_ref04_Cpu) :=
  I9 p0 j45
noncomputable def Jb (p0 : T_ref04_Cpu) (j54 : T_ref04_Cpu) : Option (T_ref04_Cpu) :=
  Ja p0 j54
noncomputable def Ce  (p0 : T_ref04_Cpu) (p1 : T_ref02_Instr) (p2 : Int) : Option (T_ref04_Cpu) :=
  if (p1.Op_ == 24) = true then (I3 p2 p0)
  else (if (p1.Op_ == 25) = true then (I4 p2 (T_ref04_Cpu.mk (Ho [(p0.R_.g 0), (p0.R_.g 1), (p0.R_.g 2), (p0.R_.g 3), (p0.R_.g 4), (p0.R_.g 5), (p0.R_.g 6), (p0.R_.g 7), (p0.R_.g 8), (p0.R_.g 9), (p0.R_.g 10), (p0.R_.g 11), (p0.R_.g 12), (p0.R_.g 13), (IntKind.wrap .u32 (p0.PC_ + 4)), (p0.R_.g 15)] : Arr 16 Int) p0.PC_ p0.EPC_ p0.Cause_ p0.State_ p0.Why_ p0.Steps_ p0.Taken_ p0.Out_ p0.Entry_ p0.Vector_ p0.Guard_ p0.Limit_ p0.Input_))
  else (if (p1.Op_ == 26) = true then (if (decide (p2 ≥ (IntKind.wrap .u32 p1.Imm_))) = true then (Ag (Fm p0 (IntKind.wrap .u32 p1.B_)) fun r10 =>
  some r10)
  else (I5 p0 p0))
  else (if (p1.Op_ == 27) = true then (if (p2 == 0) = true then (Ag (Fm p0 2) fun r15 =>
  some r15)
  else (I6 p0 p0))
  else (if (p1.Op_ == 28) = true then (Ag (Fm p0 (IntKind.wrap .u32 p1.Imm_)) fun r18 =>
  some r18)
  else (if (p1.Op_ == 29) = true then (Ag (Fm p0 p2) fun r21 =>
  some r21)
  else (if (p1.Op_ == 30) = true then (Ag (app 16 ([] : List T_api_Event) p0.Out_) fun v25 =>
  Ag (app 16 v25 ([(T_api_Event.mk p1.Imm_ (IntKind.wrap .i32 p2))] : List T_api_Event)) fun v27 =>
  I7 p0 (T_ref04_Cpu.mk p0.R_ p0.PC_ p0.EPC_ p0.Cause_ p0.State_ p0.Why_ p0.Steps_ p0.Taken_ v27 p0.Entry_ p0.Vector_ p0.Guard_ p0.Limit_ p0.Input_))
  else (if (p1.Op_ == 31) = true then (if (decide (p0.Taken_ ≥ (p0.Input_.length : Int))) = true then (Ag (Fm p0 7) fun r32 =>
  some r32)
  else (Ag (gi p0.Input_ p0.Taken_) fun x34 =>
  Ag (ga p0.R_ p1.A_) fun v36 =>
  Ag (sa p0.R_ p1.A_ (IntKind.wrap .u32 x34)) fun v38 =>
  I8 p0 (T_ref04_Cpu.mk v38 p0.PC_ p0.EPC_ p0.Cause_ p0.State_ p0.Why_ p0.Steps_ (IntKind.wrap .i64 (p0.Taken_ + 1)) p0.Out_ p0.Entry_ p0.Vector_ p0.Guard_ p0.Limit_ p0.Input_)))
  else (if (p1.Op_ == 32) = true then (if (decide ((IntKind.wrap .i32 p2) < (IntKind.wrap .i32 p0.Limit_))) = true then (Ag (Fm p0 5) fun r43 =>
  some r43)
  else (I9 p0 p0))
  else (if (p1.Op_ == 33) = true then (if (decide (p1.Imm_ > 1)) = true then (Ag (F7 p0 20) fun r48 =>
  some r48)
  else (Ag (ga p0.R_ p1.A_) fun v50 =>
  Ag (sa p0.R_ p1.A_ p0.EPC_) fun v52 =>
  if (p1.Imm_ == 1) = true then (Ag (ga v52 p1.A_) fun v56 =>
  Ag (sa v52 p1.A_ p0.Cause_) fun v58 =>
  Jb p0 (T_ref04_Cpu.mk v58 p0.PC_ p0.EPC_ p0.Cause_ p0.State_ p0.Why_ p0.Steps_ p0.Taken_ p0.Out_ p0.Entry_ p0.Vector_ p0.Guard_ p0.Limit_ p0.Input_))
  else (Jb p0 (T_ref04_Cpu.mk v52 p0.PC_ p0.EPC_ p0.Cause_ p0.State_ p0.Why_ p0.Steps_ p0.Taken_ p0.Out_ p0.Entry_ p0.Vector_ p0.Guard_ p0.Limit_ p0.Input_))))
  else (Ja p0 p0))))))))))
theorem Wh (H : Ai) {p0 : T_ref04_Cpu} {p1 : T_ref02_Instr} {p2 : Int} {ra : T_ref04_Cpu} (hF : Ce p0 p1 p2 = some ra) : evS X 119 [.agg (Ac p0), .agg (Ay p1), .one .top (.int .u32 p2)] H = some (.agg (Ac ra), H) := by
 let E1 : EN := (3, vl 3 0)
 let E2 : EN := (7, vu (IntKind.wrap .u32 (p0.PC_ + 4)))
 let E3 : EN := (2, vu p2)
 let B4 : EB := (3, (Ac p0))
 let B5 : EB := (4, (Ay p1))
 let B6 : EB := (6, (List.replicate 19 (.top, .int .u32 0) ++ List.replicate 4 (.top, .int .i64 0) ++ [((.own 1), .sl 2 (List.map Ae ([] : List T_api_Event)))] ++ List.replicate 4 (.top, .int .u32 0) ++ [((.own 1), .sl 1 (List.map (eI .i32) ([] : List Int)))]))
 let E7 : EN := (6, vl 6 0)
 let B8 : EB := (3, (arM .u32 14 p0.R_ ++ [(.top, .int .u32 (IntKind.wrap .u32 (p0.PC_ + 4))), (.top, .int .u32 (p0.R_.g 15)), (.top, .int .u32 p0.PC_), (.top, .int .u32 p0.EPC_), (.top, .int .u32 p0.Cause_), (.top, .int .i64 p0.State_), (.top, .int .i64 p0.Why_), (.top, .int .i64 p0.Steps_), (.top, .int .i64 p0.Taken_), ((.own 0), .sl 2 (List.map Ae p0.Out_)), (.top, .int .u32 p0.Entry_), (.top, .int .u32 p0.Vector_), (.top, .int .u32 p0.Guard_), (.top, .int .u32 p0.Limit_), ((.own 0), .sl 1 (List.map (eI .i32) p0.Input_))]))
 let E10 : EN := (38, .agg (Ac p0))
 let E15 : EN := (58, vl 4 4)
 let E16 : EN := (59, vi p1.Imm_)
 let E17 : EN := (61, .one .top (.int .i32 (IntKind.wrap .i32 p2)))
 let E18 : EN := (55, vl 3 23)
 let E20 : EN := (73, vb (decide (p0.Taken_ ≥ (p0.Input_.length : Int))))
 let E21 : EN := (72, vi (p0.Input_.length : Int))
 let E22 : EN := (74, .agg (Ac p0))
 let E25 : EN := (80, vl 3 22)
 let E26 : EN := (85, vl 3 0)
 let E27 : EN := (79, .one (.own 0) (.sl 1 (List.map (eI .i32) p0.Input_)))
 let E29 : EN := (81, vi p0.Taken_)
 let E30 : EN := (99, .agg (Ac p0))
 let E32 : EN := (106, .agg (Ac p0))
 let E35 : EN := (113, vl 3 (0 + Int.toNat p1.A_))
 let E37 : EN := (122, vl 3 (0 + Int.toNat p1.A_))
 let L38 : List EN := [E1, (4, vl 4 0), E7, E2]
 let L39 : List EN := [E3] ++ L38
 let L40 : List EN := [E15, E16, (60, vu p2), E17, (62, .agg [(.top, .int .i64 p1.Imm_), (.top, .int .i32 (IntKind.wrap .i32 p2))])]
 let L41 : List EN := [E18, (56, .one (.own 0) (.sl 2 (List.map Ae p0.Out_)))]
 let L42 : List EN := L39 ++ [(54, .one .top .junk)] ++ L41
 let L43 : List EN := L42 ++ [(57, .one .top .junk)] ++ L40 ++ [(63, .one .top .junk)]
 let L44 : List EN := [E1, E7]
 let L45 : List EN := L40 ++ [(63, .one (.own 1) (.sl 2 (List.map Ae ([(T_api_Event.mk p1.Imm_ (IntKind.wrap .i32 p2))] : List T_api_Event))))]
 let L47 : List EN := L38 ++ [(76, vl 4 1), (77, vi p1.A_), (78, vl 3 28)]
 let L48 : List EN := [E1, E7, E2]
 let L49 : List EN := L39 ++ [(12, vi p1.Op_)]
 let L52 : List EN := [E1, (4, vl 4 0), E7]
 let L53 : List EN := L39 ++ [(54, .one (.own 1) (.sl 2 (List.map Ae ([] : List T_api_Event))))]
 let L56 : List EN := L39 ++ [E18]
 let L58 : List EN := L53 ++ L41 ++ L45
 let L59 : List EN := L38 ++ [(108, vl 4 1), (109, vi p1.A_), (110, vl 3 17), (111, vu p0.EPC_), (112, vl 3 0)]
 let L60 : List EN := L38 ++ [(117, vl 4 1), (118, vi p1.A_), (119, vl 3 18), (120, vu p0.Cause_), (121, vl 3 0)]
 let L61 : List EN := L47 ++ [E27, E25, E29, E26]
 let L62 : List EN := [E3] ++ L44 ++ [(49, .agg (Ac p0)), (50, vu p2)]
 let L63 : List EN := L38 ++ [(68, vl 3 22), (69, vi p0.Taken_), (70, vl 3 28), (71, .one (.own 0) (.sl 1 (List.map (eI .i32) p0.Input_)))]
 let L64 : List EN := L52 ++ [(29, .agg (Ac p0)), (30, vl 4 2), (31, vi p1.B_), (32, vu (IntKind.wrap .u32 p1.B_))]
 let L65 : List EN := L52 ++ [(42, .agg (Ac p0)), (43, vl 4 4), (44, vi p1.Imm_), (45, vu (IntKind.wrap .u32 p1.Imm_))]
 let S66 : St := ⟨[E3] ++ L44, [B4, B6], H⟩
 let S67 : St := ⟨[E3] ++ L48, [B4, B6], H⟩
 refine yf Try.func119 true ⟨[(0, .agg (Ac p0)), (1, .agg (Ay p1)), E3], [], H⟩ ?_
 unfold Ce at hF
 refine ysg ⟨[E3] ++ L52, [B4, B5, B6], H⟩ ?_
 refine ysg ⟨L39, [B4, B5, B6], H⟩ ?_
 refine Ah ?_
 refine ysg ⟨L49, [B4, B5, B6], H⟩ ?_
 refine Bs ?_
 refine ysg ⟨L49 ++ [(13, vb (p1.Op_ == 24))], [B4, B5, B6], H⟩ ?_
 refine Ar (α := (Int × T_ref04_Cpu)) (fun x => (⟨L44 ++ [(7, vu x.1)], [(3, (Ac x.2)), B6], H⟩ : St)) (fun x => I3 x.1 x.2 = some ra) ?_ ?_
 rintro ⟨j1, j2⟩ hF
 replace hF : I3 j1 j2 = some ra := hF
 unfold I3 at hF
 refine ysg ⟨L44, [(3, (arM .u32 16 j2.R_ ++ [(.top, .int .u32 j1), (.top, .int .u32 j2.EPC_), (.top, .int .u32 j2.Cause_), (.top, .int .i64 j2.State_), (.top, .int .i64 j2.Why_), (.top, .int .i64 j2.Steps_), (.top, .int .i64 j2.Taken_), ((.own 0), .sl 2 (List.map Ae j2.Out_)), (.top, .int .u32 j2.Entry_), (.top, .int .u32 j2.Vector_), (.top, .int .u32 j2.Guard_), (.top, .int .u32 j2.Limit_), ((.own 0), .sl 1 (List.map (eI .i32) j2.Input_))])), B6], H⟩ ?_
 refine ysg ⟨[E7], [(6, (arM .u32 16 j2.R_ ++ [(.top, .int .u32 j1), (.top, .int .u32 j2.EPC_), (.top, .int .u32 j2.Cause_), (.top, .int .i64 j2.State_), (.top, .int .i64 j2.Why_), (.top, .int .i64 j2.Steps_), (.top, .int .i64 j2.Taken_), ((.own 0), .sl 2 (List.map Ae j2.Out_)), (.top, .int .u32 j2.Entry_), (.top, .int .u32 j2.Vector_), (.top, .int .u32 j2.Guard_), (.top, .int .u32 j2.Limit_), ((.own 0), .sl 1 (List.map (eI .i32) j2.Input_))]))], H⟩ ?_
 refine As ?_
 obtain e0 := Al hF
 subst e0
 exact yp (.agg (arM .u32 16 j2.R_ ++ [(.top, .int .u32 j1), (.top, .int .u32 j2.EPC_), (.top, .int .u32 j2.Cause_), (.top, .int .i64 j2.State_), (.top, .int .i64 j2.Why_), (.top, .int .i64 j2.Steps_), (.top, .int .i64 j2.Taken_), ((.own 0), .sl 2 (List.map Ae j2.Out_)), (.top, .int .u32 j2.Entry_), (.top, .int .u32 j2.Vector_), (.top, .int .u32 j2.Guard_), (.top, .int .u32 j2.Limit_), ((.own 0), .sl 1 (List.map (eI .i32) j2.Input_))]))
 rcases Af hF with ⟨h3, hF⟩ | ⟨h3, hF⟩
 refine yT h3 S66 ?_
 refine yg ⟨L44 ++ [(7, vu p2)], [B4, B6], H⟩ ?_
 exact ⟨(p2, p0), hF, (by kernel_rfl)⟩
 refine yF h3 ⟨L49, [B4, B5, B6], H⟩ ?_
 refine ysg ⟨L49 ++ [(16, vb (p1.Op_ == 25))], [B4, B5, B6], H⟩ ?_
 refine Ar (α := (Int × T_ref04_Cpu)) (fun x => (⟨L44 ++ [(7, vu x.1)], [(3, (Ac x.2)), B6], H⟩ : St)) (fun x => I4 x.1 x.2 = some ra) ?_ ?_
 rintro ⟨j4, j5⟩ hF
 replace hF : I4 j4 j5 = some ra := hF
 unfold I4 at hF
 exact ⟨(j4, j5), hF, (by kernel_rfl)⟩
 rcases Af hF with ⟨h6, hF⟩ | ⟨h6, hF⟩
 refine yT h6 S67 ?_
 refine ysg ⟨[E3] ++ L44, [B8, B6], H⟩ ?_
 refine yg ⟨L44 ++ [(7, vu p2)], [B8, B6], H⟩ ?_
 exact ⟨(p2, (T_ref04_Cpu.mk (Ho [(p0.R_.g 0), (p0.R_.g 1), (p0.R_.g 2), (p0.R_.g 3), (p0.R_.g 4), (p0.R_.g 5), (p0.R_.g 6), (p0.R_.g 7), (p0.R_.g 8), (p0.R_.g 9), (p0.R_.g 10), (p0.R_.g 11), (p0.R_.g 12), (p0.R_.g 13), (IntKind.wrap .u32 (p0.PC_ + 4)), (p0.R_.g 15)] : Arr 16 Int) p0.PC_ p0.EPC_ p0.Cause_ p0.State_ p0.Why_ p0.Steps_ p0.Taken_ p0.Out_ p0.Entry_ p0.Vector_ p0.Guard_ p0.Limit_ p0.Input_)), hF, (by kernel_rfl)⟩
 refine yF h6 ⟨L49, [B4, B5, B6], H⟩ ?_
 refine ysg ⟨L49 ++ [(22, vb (p1.Op_ == 26))], [B4, B5, B6], H⟩ ?_
 refine Ar (α := (T_ref04_Cpu)) (fun x => (⟨L48, [(3, (Ac x)), B6], H⟩ : St)) (fun x => I5 p0 x = some ra) ?_ ?_
 rintro j7 hF
 replace hF : I5 p0 j7 = some ra := hF
 unfold I5 at hF
 exact ⟨((IntKind.wrap .u32 (p0.PC_ + 4)), j7), hF, (by kernel_rfl)⟩
 rcases Af hF with ⟨h8, hF⟩ | ⟨h8, hF⟩
 refine yT h8 ⟨L39, [B4, B5, B6], H⟩ ?_
 refine ysg ⟨L38 ++ [(28, vb (decide (p2 ≥ (IntKind.wrap .u32 p1.Imm_))))], [B4, B5, B6], H⟩ ?_
 rcases Af hF with ⟨h9, hF⟩ | ⟨h9, hF⟩
 refine yT h9 ⟨L52, [B4, B5, B6], H⟩ ?_
 refine Ah ?_
 obtain ⟨r10, c11, hF⟩ := Ab hF
 let E9 : EN := (33, .agg (Ac r10))
 refine Ak ⟨[E7], [(6, (Ac r10))], H⟩ ?_ ?_
 refine yr 4 ⟨L64, [B4, B5, B6], H⟩ ?_
 refine Aj ⟨L64 ++ [E9], [B4, B5, B6], H⟩ (yc (some 33) true false (⟨L64, [B4, B5, B6], H⟩ : St) (Gd H c11)) ?_
 refine yr 1 ⟨L64 ++ [E9], [B4, B5, (6, (Ac r10))], H⟩ ?_
 exact ye
 refine As ?_
 obtain e0 := Al hF
 subst e0
 exact yp (.agg (Ac r10))
 refine yF h9 ⟨L48, [B4, B6], H⟩ ?_
 refine Am ?_
 exact ⟨p0, hF, (by kernel_rfl)⟩
 refine yF h8 ⟨L49, [B4, B5, B6], H⟩ ?_
 refine ysg ⟨L49 ++ [(34, vb (p1.Op_ == 27))], [B4, B5, B6], H⟩ ?_
 refine Ar (α := (T_ref04_Cpu)) (fun x => (⟨L48, [(3, (Ac x)), B6], H⟩ : St)) (fun x => I6 p0 x = some ra) ?_ ?_
 rintro j12 hF
 replace hF : I6 p0 j12 = some ra := hF
 unfold I6 at hF
 exact ⟨j12, hF, (by kernel_rfl)⟩
 rcases Af hF with ⟨h13, hF⟩ | ⟨h13, hF⟩
 refine yT h13 S67 ?_
 refine ysg ⟨L48 ++ [(37, vb (p2 == 0))], [B4, B6], H⟩ ?_
 rcases Af hF with ⟨h14, hF⟩ | ⟨h14, hF⟩
 refine yT h14 ⟨L44, [B4, B6], H⟩ ?_
 refine Ah ?_
 obtain ⟨r15, c16, hF⟩ := Ab hF
 let E11 : EN := (39, .agg (Ac r15))
 refine Ak ⟨[E7], [(6, (Ac r15))], H⟩ ?_ ?_
 refine yr 1 ⟨L44 ++ [E10], [B4, B6], H⟩ ?_
 refine Aj ⟨L44 ++ [E10, E11], [B4, B6], H⟩ (yc (some 39) true false (⟨L44 ++ [E10], [B4, B6], H⟩ : St) (Gd H c16)) ?_
 refine yr 1 ⟨L44 ++ [E10, E11], [B4, (6, (Ac r15))], H⟩ ?_
 exact ye
 refine As ?_
 obtain e0 := Al hF
 subst e0
 exact yp (.agg (Ac r15))
 refine yF h14 ⟨L48, [B4, B6], H⟩ ?_
 refine Am ?_
 exact ⟨p0, hF, (by kernel_rfl)⟩
 refine yF h13 ⟨L49, [B4, B5, B6], H⟩ ?_
 refine ysg ⟨L49 ++ [(40, vb (p1.Op_ == 28))], [B4, B5, B6], H⟩ ?_
 rcases Af hF with ⟨h17, hF⟩ | ⟨h17, hF⟩
 refine yT h17 ⟨L52, [B4, B5, B6], H⟩ ?_
 refine Ah ?_
 obtain ⟨r18, c19, hF⟩ := Ab hF
 let E12 : EN := (46, .agg (Ac r18))
 refine Ak ⟨[E7], [(6, (Ac r18))], H⟩ ?_ ?_
 refine yr 4 ⟨L65, [B4, B5, B6], H⟩ ?_
 refine Aj ⟨L65 ++ [E12], [B4, B5, B6], H⟩ (yc (some 46) true false (⟨L65, [B4, B5, B6], H⟩ : St) (Gd H c19)) ?_
 refine yr 1 ⟨L65 ++ [E12], [B4, B5, (6, (Ac r18))], H⟩ ?_
 exact ye
 refine As ?_
 obtain e0 := Al hF
 subst e0
 exact yp (.agg (Ac r18))
 refine yF h17 ⟨L49, [B4, B5, B6], H⟩ ?_
 refine ysg ⟨L49 ++ [(47, vb (p1.Op_ == 29))], [B4, B5, B6], H⟩ ?_
 rcases Af hF with ⟨h20, hF⟩ | ⟨h20, hF⟩
 refine yT h20 S66 ?_
 refine Ah ?_
 obtain ⟨r21, c22, hF⟩ := Ab hF
 let E13 : EN := (51, .agg (Ac r21))
 refine Ak ⟨[E7], [(6, (Ac r21))], H⟩ ?_ ?_
 refine yr 2 ⟨L62, [B4, B6], H⟩ ?_
 refine Aj ⟨L62 ++ [E13], [B4, B6], H⟩ (yc (some 51) true false (⟨L62, [B4, B6], H⟩ : St) (Gd H c22)) ?_
 refine yr 1 ⟨L62 ++ [E13], [B4, (6, (Ac r21))], H⟩ ?_
 exact ye
 refine As ?_
 obtain e0 := Al hF
 subst e0
 exact yp (.agg (Ac r21))
 refine yF h20 ⟨L49, [B4, B5, B6], H⟩ ?_
 refine ysg ⟨L49 ++ [(52, vb (p1.Op_ == 30))], [B4, B5, B6], H⟩ ?_
 refine Ar (α := (T_ref04_Cpu)) (fun x => (⟨L48, [(3, (Ac x)), B6], H⟩ : St)) (fun x => I7 p0 x = some ra) ?_ ?_
 rintro j23 hF
 replace hF : I7 p0 j23 = some ra := hF
 unfold I7 at hF
 exact ⟨j23, hF, (by kernel_rfl)⟩
 rcases Af hF with ⟨h24, hF⟩ | ⟨h24, hF⟩
 refine yT h24 ⟨L39, [B4, B5, B6], H⟩ ?_
 obtain ⟨v25, h26, hF⟩ := Ab hF
 let E19 : EN := (57, .one (.own 1) (.sl 2 (List.map Ae v25)))
 let L55 : List EN := L42 ++ [E19] ++ L45
 obtain ⟨v27, h28, hF⟩ := Ab hF
 let B14 : EB := (3, (arM .u32 16 p0.R_ ++ [(.top, .int .u32 p0.PC_), (.top, .int .u32 p0.EPC_), (.top, .int .u32 p0.Cause_), (.top, .int .i64 p0.State_), (.top, .int .i64 p0.Why_), (.top, .int .i64 p0.Steps_), (.top, .int .i64 p0.Taken_), ((.own 0), .sl 2 (List.map Ae v27)), (.top, .int .u32 p0.Entry_), (.top, .int .u32 p0.Vector_), (.top, .int .u32 p0.Guard_), (.top, .int .u32 p0.Limit_), ((.own 0), .sl 1 (List.map (eI .i32) p0.Input_))]))
 let L46 : List EN := L43 ++ [(64, .one (.own 0) (.sl 2 (List.map Ae v27)))]
 let L50 : List EN := L46 ++ [(65, vl 3 23)]
 let K69 : Sch := .last 2 (.last 3 (.last 10 (.take 11 (.last 12 .done))))
 let K70 : Sch := .last 0 (.last 3 (.last 10 (.take 11 (.last 12 .done))))
 let K68 : Sch := .alt 3 (.last 9 (.last 10 (.take 11 (.last 12 .done)))) (.last 9 (.last 3 (.last 10 (.take 11 (.last 12 .done)))))
 refine Bn (.take 1 (.take 4 (.take 5 (.take 6 (.take 7 (.take 8 (.alt 0 (.alt 2 K68 (.last 9 K69)) (.alt 2 (.alt 0 K68 (.last 9 K70)) (.last 9 (.alt 0 K69 (.last 2 K70))))))))))) (by kernel_rfl) (⟨L48, [B14, B6], H⟩ : St) ?_ ?_
 refine ydk 6 ⟨L56 ++ L40, [B4, B5, B6], H⟩ ?_
 refine jV (⟨L50, [B14, B5, B6], H⟩ : St) ?_ ?_
 refine P2 ⟨L53 ++ [E18] ++ L40, [B4, B5, B6], H⟩ (by kernel_rfl) ?_ ?_
 refine P2 ⟨L53 ++ L41 ++ L40, [B4, B5, B6], H⟩ (by kernel_rfl) ?_ ?_
 refine P2 ⟨L42 ++ [E19] ++ L40, [B4, B5, B6], H⟩ (Lq (X := X) (⟨L42 ++ L40, [B4, B5, B6], H⟩ : St) 16 h26 47 47 67 2 0 [(.top, .int .i64 0), (.top, .int .i32 0)] (.own 0) Ae 0 (some 57) (by kernel_rfl) (by kernel_rfl) (by kernel_rfl) (by kernel_rfl) (by kernel_rfl) (by kernel_rfl) (by kernel_rfl) (by kernel_rfl) (by kernel_rfl) (fun _ => rfl) (by kernel_rfl)) ?_ ?_
 refine yql ⟨L55, [B4, B5, B6], H⟩ ?_
 refine Bz ⟨L46, [B4, B5, B6], H⟩ (O8 (X := X) (⟨L43, [B4, B5, B6], H⟩ : St) 16 h28 47 47 67 2 0 [(.top, .int .i64 0), (.top, .int .i32 0)] (.own 1) Ae 0 (some 64) (by kernel_rfl) (by kernel_rfl) (by kernel_rfl) (by kernel_rfl) (by kernel_rfl) (by kernel_rfl) (by kernel_rfl) (by kernel_rfl) (by kernel_rfl) (fun _ => rfl) (by kernel_rfl)) ?_
 refine yqt ⟨L50, [B4, B5, B6], H⟩ ?_
 refine yql ⟨L50, [B14, B5, B6], H⟩ ?_
 exact yqe
 refine yql ⟨L58, [B4, B5, B6], H⟩ ?_
 refine Bz ⟨L55, [B4, B5, B6], H⟩ (Lq (X := X) (⟨L42 ++ L45, [B4, B5, B6], H⟩ : St) 16 h26 47 47 67 2 0 [(.top, .int .i64 0), (.top, .int .i32 0)] (.own 0) Ae 0 (some 57) (by kernel_rfl) (by kernel_rfl) (by kernel_rfl) (by kernel_rfl) (by kernel_rfl) (by kernel_rfl) (by kernel_rfl) (by kernel_rfl) (by kernel_rfl) (fun _ => rfl) (by kernel_rfl)) ?_
 refine Bz ⟨L46, [B4, B5, B6], H⟩ (O8 (X := X) (⟨L43, [B4, B5, B6], H⟩ : St) 16 h28 47 47 67 2 0 [(.top, .int .i64 0), (.top, .int .i32 0)] (.own 1) Ae 0 (some 64) (by kernel_rfl) (by kernel_rfl) (by kernel_rfl) (by kernel_rfl) (by kernel_rfl) (by kernel_rfl) (by kernel_rfl) (by kernel_rfl) (by kernel_rfl) (fun _ => rfl) (by kernel_rfl)) ?_
 refine yqt ⟨L50, [B4, B5, B6], H⟩ ?_
 refine yql ⟨L50, [B14, B5, B6], H⟩ ?_
 exact yqe
 refine yql ⟨L53 ++ [E18] ++ L45, [B4, B5, B6], H⟩ ?_
 refine yql ⟨L58, [B4, B5, B6], H⟩ ?_
 refine Bz ⟨L55, [B4, B5, B6], H⟩ (Lq (X := X) (⟨L42 ++ L45, [B4, B5, B6], H⟩ : St) 16 h26 47 47 67 2 0 [(.top, .int .i64 0), (.top, .int .i32 0)] (.own 0) Ae 0 (some 57) (by kernel_rfl) (by kernel_rfl) (by kernel_rfl) (by kernel_rfl) (by kernel_rfl) (by kernel_rfl) (by kernel_rfl) (by kernel_rfl) (by kernel_rfl) (fun _ => rfl) (by kernel_rfl)) ?_
 refine Bz ⟨L46, [B4, B5, B6], H⟩ (O8 (X := X) (⟨L43, [B4, B5, B6], H⟩ : St) 16 h28 47 47 67 2 0 [(.top, .int .i64 0), (.top, .int .i32 0)] (.own 1) Ae 0 (some 64) (by kernel_rfl) (by kernel_rfl) (by kernel_rfl) (by kernel_rfl) (by kernel_rfl) (by kernel_rfl) (by kernel_rfl) (by kernel_rfl) (by kernel_rfl) (fun _ => rfl) (by kernel_rfl)) ?_
 refine yqt ⟨L50, [B4, B5, B6], H⟩ ?_
 refine yql ⟨L50, [B14, B5, B6], H⟩ ?_
 exact yqe
 refine P2 ⟨L39 ++ L41 ++ L40, [B4, B5, B6], H⟩ (by kernel_rfl) ?_ ?_
 refine P2 ⟨L53 ++ L41 ++ L40, [B4, B5, B6], H⟩ (by kernel_rfl) ?_ ?_
 refine P2 ⟨L42 ++ [E19] ++ L40, [B4, B5, B6], H⟩ (Lq (X := X) (⟨L42 ++ L40, [B4, B5, B6], H⟩ : St) 16 h26 47 47 67 2 0 [(.top, .int .i64 0), (.top, .int .i32 0)] (.own 0) Ae 0 (some 57) (by kernel_rfl) (by kernel_rfl) (by kernel_rfl) (by kernel_rfl) (by kernel_rfl) (by kernel_rfl) (by kernel_rfl) (by kernel_rfl) (by kernel_rfl) (fun _ => rfl) (by kernel_rfl)) ?_ ?_
 refine yql ⟨L55, [B4, B5, B6], H⟩ ?_
 refine Bz ⟨L46, [B4, B5, B6], H⟩ (O8 (X := X) (⟨L43, [B4, B5, B6], H⟩ : St) 16 h28 47 47 67 2 0 [(.top, .int .i64 0), (.top, .int .i32 0)] (.own 1) Ae 0 (some 64) (by kernel_rfl) (by kernel_rfl) (by kernel_rfl) (by kernel_rfl) (by kernel_rfl) (by kernel_rfl) (by kernel_rfl) (by kernel_rfl) (by kernel_rfl) (fun _ => rfl) (by kernel_rfl)) ?_
 refine yqt ⟨L50, [B4, B5, B6], H⟩ ?_
 refine yql ⟨L50, [B14, B5, B6], H⟩ ?_
 exact yqe
 refine yql ⟨L58, [B4, B5, B6], H⟩ ?_
 refine Bz ⟨L55, [B4, B5, B6], H⟩ (Lq (X := X) (⟨L42 ++ L45, [B4, B5, B6], H⟩ : St) 16 h26 47 47 67 2 0 [(.top, .int .i64 0), (.top, .int .i32 0)] (.own 0) Ae 0 (some 57) (by kernel_rfl) (by kernel_rfl) (by kernel_rfl) (by kernel_rfl) (by kernel_rfl) (by kernel_rfl) (by kernel_rfl) (by kernel_rfl) (by kernel_rfl) (fun _ => rfl) (by kernel_rfl)) ?_
 refine Bz ⟨L46, [B4, B5, B6], H⟩ (O8 (X := X) (⟨L43, [B4, B5, B6], H⟩ : St) 16 h28 47 47 67 2 0 [(.top, .int .i64 0), (.top, .int .i32 0)] (.own 1) Ae 0 (some 64) (by kernel_rfl) (by kernel_rfl) (by kernel_rfl) (by kernel_rfl) (by kernel_rfl) (by kernel_rfl) (by kernel_rfl) (by kernel_rfl) (by kernel_rfl) (fun _ => rfl) (by kernel_rfl)) ?_
 refine yqt ⟨L50, [B4, B5, B6], H⟩ ?_
 refine yql ⟨L50, [B14, B5, B6], H⟩ ?_
 exact yqe
 refine yql ⟨L39 ++ L41 ++ L45, [B4, B5, B6], H⟩ ?_
 refine yql ⟨L58, [B4, B5, B6], H⟩ ?_
 refine Bz ⟨L55, [B4, B5, B6], H⟩ (Lq (X := X) (⟨L42 ++ L45, [B4, B5, B6], H⟩ : St) 16 h26 47 47 67 2 0 [(.top, .int .i64 0), (.top, .int .i32 0)] (.own 0) Ae 0 (some 57) (by kernel_rfl) (by kernel_rfl) (by kernel_rfl) (by kernel_rfl) (by kernel_rfl) (by kernel_rfl) (by kernel_rfl) (by kernel_rfl) (by kernel_rfl) (fun _ => rfl) (by kernel_rfl)) ?_
 refine Bz ⟨L46, [B4, B5, B6], H⟩ (O8 (X := X) (⟨L43, [B4, B5, B6], H⟩ : St) 16 h28 47 47 67 2 0 [(.top, .int .i64 0), (.top, .int .i32 0)] (.own 1) Ae 0 (some 64) (by kernel_rfl) (by kernel_rfl) (by kernel_rfl) (by kernel_rfl) (by kernel_rfl) (by kernel_rfl) (by kernel_rfl) (by kernel_rfl) (by kernel_rfl) (fun _ => rfl) (by kernel_rfl)) ?_
 refine yqt ⟨L50, [B4, B5, B6], H⟩ ?_
 refine yql ⟨L50, [B14, B5, B6], H⟩ ?_
 exact yqe
 refine yql ⟨L56 ++ L45, [B4, B5, B6], H⟩ ?_
 refine P2 ⟨L53 ++ [E18] ++ L45, [B4, B5, B6], H⟩ (by kernel_rfl) ?_ ?_
 refine yql ⟨L58, [B4, B5, B6], H⟩ ?_
 refine Bz ⟨L55, [B4, B5, B6], H⟩ (Lq (X := X) (⟨L42 ++ L45, [B4, B5, B6], H⟩ : St) 16 h26 47 47 67 2 0 [(.top, .int .i64 0), (.top, .int .i32 0)] (.own 0) Ae 0 (some 57) (by kernel_rfl) (by kernel_rfl) (by kernel_rfl) (by kernel_rfl) (by kernel_rfl) (by kernel_rfl) (by kernel_rfl) (by kernel_rfl) (by kernel_rfl) (fun _ => rfl) (by kernel_rfl)) ?_
 refine Bz ⟨L46, [B4, B5, B6], H⟩ (O8 (X := X) (⟨L43, [B4, B5, B6], H⟩ : St) 16 h28 47 47 67 2 0 [(.top, .int .i64 0), (.top, .int .i32 0)] (.own 1) Ae 0 (some 64) (by kernel_rfl) (by kernel_rfl) (by kernel_rfl) (by kernel_rfl) (by kernel_rfl) (by kernel_rfl) (by kernel_rfl) (by kernel_rfl) (by kernel_rfl) (fun _ => rfl) (by kernel_rfl)) ?_
 refine yqt ⟨L50, [B4, B5, B6], H⟩ ?_
 refine yql ⟨L50, [B14, B5, B6], H⟩ ?_
 exact yqe
 refine yql ⟨L39 ++ L41 ++ L45, [B4, B5, B6], H⟩ ?_
 refine yql ⟨L58, [B4, B5, B6], H⟩ ?_
 refine Bz ⟨L55, [B4, B5, B6], H⟩ (Lq (X := X) (⟨L42 ++ L45, [B4, B5, B6], H⟩ : St) 16 h26 47 47 67 2 0 [(.top, .int .i64 0), (.top, .int .i32 0)] (.own 0) Ae 0 (some 57) (by kernel_rfl) (by kernel_rfl) (by kernel_rfl) (by kernel_rfl) (by kernel_rfl) (by kernel_rfl) (by kernel_rfl) (by kernel_rfl) (by kernel_rfl) (fun _ => rfl) (by kernel_rfl)) ?_
 refine Bz ⟨L46, [B4, B5, B6], H⟩ (O8 (X := X) (⟨L43, [B4, B5, B6], H⟩ : St) 16 h28 47 47 67 2 0 [(.top, .int .i64 0), (.top, .int .i32 0)] (.own 1) Ae 0 (some 64) (by kernel_rfl) (by kernel_rfl) (by kernel_rfl) (by kernel_rfl) (by kernel_rfl) (by kernel_rfl) (by kernel_rfl) (by kernel_rfl) (by kernel_rfl) (fun _ => rfl) (by kernel_rfl)) ?_
 refine yqt ⟨L50, [B4, B5, B6], H⟩ ?_
 refine yql ⟨L50, [B14, B5, B6], H⟩ ?_
 exact yqe
 kernel_rfl
 exact ⟨(T_ref04_Cpu.mk p0.R_ p0.PC_ p0.EPC_ p0.Cause_ p0.State_ p0.Why_ p0.Steps_ p0.Taken_ v27 p0.Entry_ p0.Vector_ p0.Guard_ p0.Limit_ p0.Input_), hF, (by kernel_rfl)⟩
 refine yF h24 ⟨L49, [B4, B5, B6], H⟩ ?_
 refine ysg ⟨L49 ++ [(66, vb (p1.Op_ == 31))], [B4, B5, B6], H⟩ ?_
 refine Ar (α := (T_ref04_Cpu)) (fun x => (⟨L48, [(3, (Ac x)), B6], H⟩ : St)) (fun x => I8 p0 x = some ra) ?_ ?_
 rintro j29 hF
 replace hF : I8 p0 j29 = some ra := hF
 unfold I8 at hF
 exact ⟨j29, hF, (by kernel_rfl)⟩
 rcases Af hF with ⟨h30, hF⟩ | ⟨h30, hF⟩
 refine yT h30 ⟨L38, [B4, B5, B6], H⟩ ?_
 refine Ah ?_
 refine yso ⟨L38 ++ [E20], [B4, B5, B6], H⟩ ?_ ?_
 refine yr 4 ⟨L63, [B4, B5, B6], H⟩ ?_
 refine Aj ⟨L63 ++ [E21], [B4, B5, B6], H⟩ (yl (⟨L63, [B4, B5, B6], H⟩ : St) p0.Input_ (eI .i32) (some 72)) ?_
 refine yr 1 ⟨L63 ++ [E21, E20], [B4, B5, B6], H⟩ ?_
 exact ye
 rcases Af hF with ⟨h31, hF⟩ | ⟨h31, hF⟩
 refine yT h31 ⟨L44, [B4, B6], H⟩ ?_
 refine Ah ?_
 obtain ⟨r32, c33, hF⟩ := Ab hF
 let E23 : EN := (75, .agg (Ac r32))
 refine Ak ⟨[E7], [(6, (Ac r32))], H⟩ ?_ ?_
 refine yr 1 ⟨L44 ++ [E22], [B4, B6], H⟩ ?_
 refine Aj ⟨L44 ++ [E22, E23], [B4, B6], H⟩ (yc (some 75) true false (⟨L44 ++ [E22], [B4, B6], H⟩ : St) (Gd H c33)) ?_
 refine yr 1 ⟨L44 ++ [E22, E23], [B4, (6, (Ac r32))], H⟩ ?_
 exact ye
 refine As ?_
 obtain e0 := Al hF
 subst e0
 exact yp (.agg (Ac r32))
 refine yF h31 ⟨L38, [B4, B5, B6], H⟩ ?_
 refine Am ?_
 refine Ah ?_
 obtain ⟨x34, h35, hF⟩ := Ab hF
 let E28 : EN := (83, .one .top (.int .i32 x34))
 let L51 : List EN := L47 ++ [E27, E25, E29, (82, .one .top (.rd (.own 0) (.own 0) [.int .i32 x34] 0))]
 let L54 : List EN := L51 ++ [E28, (84, vu (IntKind.wrap .u32 x34)), E26]
 let L57 : List EN := L54 ++ [(86, vl 3 (0 + Int.toNat p1.A_))]
 obtain ⟨v36, h37, hF⟩ := Ab hF
 obtain ⟨v38, h39, hF⟩ := Ab hF
 let B24 : EB := (3, (arM .u32 16 v38 ++ [(.top, .int .u32 p0.PC_), (.top, .int .u32 p0.EPC_), (.top, .int .u32 p0.Cause_), (.top, .int .i64 p0.State_), (.top, .int .i64 p0.Why_), (.top, .int .i64 p0.Steps_), (.top, .int .i64 p0.Taken_), ((.own 0), .sl 2 (List.map Ae p0.Out_)), (.top, .int .u32 p0.Entry_), (.top, .int .u32 p0.Vector_), (.top, .int .u32 p0.Guard_), (.top, .int .u32 p0.Limit_), ((.own 0), .sl 1 (List.map (eI .i32) p0.Input_))]))
 let K71 : Sch := .take 6 (.take 7 (.take 8 (.take 10 (.last 11 .done))))
 refine Bn (.take 0 (.take 1 (.take 2 (.take 4 (.take 9 (.alt 3 (.last 5 K71) (.last 5 (.last 3 K71)))))))) (by kernel_rfl) (⟨L48, [B24, B6], H⟩ : St) ?_ ?_
 refine ydk 5 ⟨L47 ++ [E25, E26], [B4, B5, B6], H⟩ ?_
 refine jV (⟨L57, [B24, B5, B6], H⟩ : St) ?_ ?_
 refine P2 ⟨L47 ++ [E27, E25, E26], [B4, B5, B6], H⟩ (by kernel_rfl) ?_ ?_
 refine yql ⟨L61, [B4, B5, B6], H⟩ ?_
 refine Tn ⟨L51 ++ [E26], [B4, B5, B6], H⟩ (Qw (X := X) (⟨L61, [B4, B5, B6], H⟩ : St) 48 21 1 h35 (eI .i32) (.own 0) (some 82) (by kernel_rfl) (by kernel_rfl) (by kernel_rfl) (by kernel_rfl)) ?_
 refine yqt ⟨L51 ++ [E28, E26], [B4, B5, B6], H⟩ ?_
 refine yqt ⟨L54, [B4, B5, B6], H⟩ ?_
 refine Tn ⟨L57, [B4, B5, B6], H⟩ (Je (X := X) (⟨L54, [B4, B5, B6], H⟩ : St) 46 35 16 h37 3 0 (some 86) (by kernel_rfl) (by kernel_rfl) (by kernel_rfl) (by kernel_rfl)) ?_
 refine Bz ⟨L57, [B24, B5, B6], H⟩ (Ot (X := X) (⟨L57, [B4, B5, B6], H⟩ : St) 35 16 h39 3 0 (Ac p0) (fun q => .int .u32 q) ⟨true, [4, 6]⟩ (by kernel_rfl) (by kernel_rfl) (by kernel_rfl) (by kernel_rfl) (by kernel_rfl) (fun _ => rfl) (by kernel_rfl)) ?_
 exact yqe
 refine yql ⟨L47 ++ [E25, E29, E26], [B4, B5, B6], H⟩ ?_
 refine yql ⟨L61, [B4, B5, B6], H⟩ ?_
 refine Tn ⟨L51 ++ [E26], [B4, B5, B6], H⟩ (Qw (X := X) (⟨L61, [B4, B5, B6], H⟩ : St) 48 21 1 h35 (eI .i32) (.own 0) (some 82) (by kernel_rfl) (by kernel_rfl) (by kernel_rfl) (by kernel_rfl)) ?_
 refine yqt ⟨L51 ++ [E28, E26], [B4, B5, B6], H⟩ ?_
 refine yqt ⟨L54, [B4, B5, B6], H⟩ ?_
 refine Tn ⟨L57, [B4, B5, B6], H⟩ (Je (X := X) (⟨L54, [B4, B5, B6], H⟩ : St) 46 35 16 h37 3 0 (some 86) (by kernel_rfl) (by kernel_rfl) (by kernel_rfl) (by kernel_rfl)) ?_
 refine Bz ⟨L57, [B24, B5, B6], H⟩ (Ot (X := X) (⟨L57, [B4, B5, B6], H⟩ : St) 35 16 h39 3 0 (Ac p0) (fun q => .int .u32 q) ⟨true, [4, 6]⟩ (by kernel_rfl) (by kernel_rfl) (by kernel_rfl) (by kernel_rfl) (by kernel_rfl) (fun _ => rfl) (by kernel_rfl)) ?_
 exact yqe
 kernel_rfl
 refine yg ⟨L48, [(3, (arM .u32 16 v38 ++ [(.top, .int .u32 p0.PC_), (.top, .int .u32 p0.EPC_), (.top, .int .u32 p0.Cause_), (.top, .int .i64 p0.State_), (.top, .int .i64 p0.Why_), (.top, .int .i64 p0.Steps_), (.top, .int .i64 (IntKind.wrap .i64 (p0.Taken_ + 1))), ((.own 0), .sl 2 (List.map Ae p0.Out_)), (.top, .int .u32 p0.Entry_), (.top, .int .u32 p0.Vector_), (.top, .int .u32 p0.Guard_), (.top, .int .u32 p0.Limit_), ((.own 0), .sl 1 (List.map (eI .i32) p0.Input_))])), B6], H⟩ ?_
 exact ⟨(T_ref04_Cpu.mk v38 p0.PC_ p0.EPC_ p0.Cause_ p0.State_ p0.Why_ p0.Steps_ (IntKind.wrap .i64 (p0.Taken_ + 1)) p0.Out_ p0.Entry_ p0.Vector_ p0.Guard_ p0.Limit_ p0.Input_), hF, (by kernel_rfl)⟩
 refine yF h30 ⟨L49, [B4, B5, B6], H⟩ ?_
 refine ysg ⟨L49 ++ [(91, vb (p1.Op_ == 32))], [B4, B5, B6], H⟩ ?_
 refine Ar (α := (T_ref04_Cpu)) (fun x => (⟨L48, [(3, (Ac x)), B6], H⟩ : St)) (fun x => I9 p0 x = some ra) ?_ ?_
 rintro j40 hF
 replace hF : I9 p0 j40 = some ra := hF
 unfold I9 at hF
 exact ⟨j40, hF, (by kernel_rfl)⟩
 rcases Af hF with ⟨h41, hF⟩ | ⟨h41, hF⟩
 refine yT h41 S67 ?_
 refine ysg ⟨L48 ++ [(98, vb (decide ((IntKind.wrap .i32 p2) < (IntKind.wrap .i32 p0.Limit_))))], [B4, B6], H⟩ ?_
 rcases Af hF with ⟨h42, hF⟩ | ⟨h42, hF⟩
 refine yT h42 ⟨L44, [B4, B6], H⟩ ?_
 refine Ah ?_
 obtain ⟨r43, c44, hF⟩ := Ab hF
 let E31 : EN := (100, .agg (Ac r43))
 refine Ak ⟨[E7], [(6, (Ac r43))], H⟩ ?_ ?_
 refine yr 1 ⟨L44 ++ [E30], [B4, B6], H⟩ ?_
 refine Aj ⟨L44 ++ [E30, E31], [B4, B6], H⟩ (yc (some 100) true false (⟨L44 ++ [E30], [B4, B6], H⟩ : St) (Gd H c44)) ?_
 refine yr 1 ⟨L44 ++ [E30, E31], [B4, (6, (Ac r43))], H⟩ ?_
 exact ye
 refine As ?_
 obtain e0 := Al hF
 subst e0
 exact yp (.agg (Ac r43))
 refine yF h42 ⟨L48, [B4, B6], H⟩ ?_
 refine Am ?_
 exact ⟨p0, hF, (by kernel_rfl)⟩
 refine yF h41 ⟨L38 ++ [(12, vi p1.Op_)], [B4, B5, B6], H⟩ ?_
 refine ysg ⟨L38 ++ [(101, vb (p1.Op_ == 33))], [B4, B5, B6], H⟩ ?_
 refine Ar (α := (T_ref04_Cpu)) (fun x => (⟨L48, [(3, (Ac x)), B6], H⟩ : St)) (fun x => Ja p0 x = some ra) ?_ ?_
 rintro j45 hF
 replace hF : Ja p0 j45 = some ra := hF
 unfold Ja at hF
 exact ⟨j45, hF, (by kernel_rfl)⟩
 rcases Af hF with ⟨h46, hF⟩ | ⟨h46, hF⟩
 refine yT h46 ⟨L38, [B4, B5, B6], H⟩ ?_
 refine Ah ?_
 refine ysg ⟨L38 ++ [(105, vb (decide (p1.Imm_ > 1)))], [B4, B5, B6], H⟩ ?_
 rcases Af hF with ⟨h47, hF⟩ | ⟨h47, hF⟩
 refine yT h47 ⟨L44, [B4, B6], H⟩ ?_
 refine Ah ?_
 obtain ⟨r48, c49, hF⟩ := Ab hF
 let E33 : EN := (107, .agg (Ac r48))
 refine Ak ⟨[E7], [(6, (Ac r48))], H⟩ ?_ ?_
 refine yr 1 ⟨L44 ++ [E32], [B4, B6], H⟩ ?_
 refine Aj ⟨L44 ++ [E32, E33], [B4, B6], H⟩ (yc (some 107) true false (⟨L44 ++ [E32], [B4, B6], H⟩ : St) (G8 H c49)) ?_
 refine yr 1 ⟨L44 ++ [E32, E33], [B4, (6, (Ac r48))], H⟩ ?_
 exact ye
 refine As ?_
 obtain e0 := Al hF
 subst e0
 exact yp (.agg (Ac r48))
 refine yF h47 ⟨L38, [B4, B5, B6], H⟩ ?_
 refine Am ?_
 refine Ah ?_
 obtain ⟨v50, h51, hF⟩ := Ab hF
 obtain ⟨v52, h53, hF⟩ := Ab hF
 let B34 : EB := (3, (arM .u32 16 v52 ++ [(.top, .int .u32 p0.PC_), (.top, .int .u32 p0.EPC_), (.top, .int .u32 p0.Cause_), (.top, .int .i64 p0.State_), (.top, .int .i64 p0.Why_), (.top, .int .i64 p0.Steps_), (.top, .int .i64 p0.Taken_), ((.own 0), .sl 2 (List.map Ae p0.Out_)), (.top, .int .u32 p0.Entry_), (.top, .int .u32 p0.Vector_), (.top, .int .u32 p0.Guard_), (.top, .int .u32 p0.Limit_), ((.own 0), .sl 1 (List.map (eI .i32) p0.Input_))]))
 refine Ak ⟨L38, [B34, B5, B6], H⟩ ?_ ?_
 refine yr 5 ⟨L59, [B4, B5, B6], H⟩ ?_
 refine Aj ⟨L59 ++ [E35], [B4, B5, B6], H⟩ (Je (X := X) (⟨L59, [B4, B5, B6], H⟩ : St) 46 35 16 h51 3 0 (some 113) (by kernel_rfl) (by kernel_rfl) (by kernel_rfl) (by kernel_rfl)) ?_
 refine Aj ⟨L59 ++ [E35], [B34, B5, B6], H⟩ (Ot (X := X) (⟨L59 ++ [E35], [B4, B5, B6], H⟩ : St) 35 16 h53 3 0 (Ac p0) (fun q => .int .u32 q) ⟨true, []⟩ (by kernel_rfl) (by kernel_rfl) (by kernel_rfl) (by kernel_rfl) (by kernel_rfl) (fun _ => rfl) (by kernel_rfl)) ?_
 exact ye
 refine ysg ⟨L38 ++ [(116, vb (p1.Imm_ == 1))], [B34, B5, B6], H⟩ ?_
 refine Ar (α := (T_ref04_Cpu)) (fun x => (⟨L48, [(3, (Ac x)), B6], H⟩ : St)) (fun x => Jb p0 x = some ra) ?_ ?_
 rintro j54 hF
 replace hF : Jb p0 j54 = some ra := hF
 unfold Jb at hF
 exact ⟨j54, hF, (by kernel_rfl)⟩
 rcases Af hF with ⟨h55, hF⟩ | ⟨h55, hF⟩
 refine yT h55 ⟨L38, [B34, B5, B6], H⟩ ?_
 obtain ⟨v56, h57, hF⟩ := Ab hF
 obtain ⟨v58, h59, hF⟩ := Ab hF
 let B36 : EB := (3, (arM .u32 16 v58 ++ [(.top, .int .u32 p0.PC_), (.top, .int .u32 p0.EPC_), (.top, .int .u32 p0.Cause_), (.top, .int .i64 p0.State_), (.top, .int .i64 p0.Why_), (.top, .int .i64 p0.Steps_), (.top, .int .i64 p0.Taken_), ((.own 0), .sl 2 (List.map Ae p0.Out_)), (.top, .int .u32 p0.Entry_), (.top, .int .u32 p0.Vector_), (.top, .int .u32 p0.Guard_), (.top, .int .u32 p0.Limit_), ((.own 0), .sl 1 (List.map (eI .i32) p0.Input_))]))
 refine Ak ⟨L48, [B36, B6], H⟩ ?_ ?_
 refine yr 5 ⟨L60, [B34, B5, B6], H⟩ ?_
 refine Aj ⟨L60 ++ [E37], [B34, B5, B6], H⟩ (Je (X := X) (⟨L60, [B34, B5, B6], H⟩ : St) 46 35 16 h57 3 0 (some 122) (by kernel_rfl) (by kernel_rfl) (by kernel_rfl) (by kernel_rfl)) ?_
 refine Aj ⟨L60 ++ [E37], [B36, B5, B6], H⟩ (Ot (X := X) (⟨L60 ++ [E37], [B34, B5, B6], H⟩ : St) 35 16 h59 3 0 (arM .u32 16 v52 ++ [(.top, .int .u32 p0.PC_), (.top, .int .u32 p0.EPC_), (.top, .int .u32 p0.Cause_), (.top, .int .i64 p0.State_), (.top, .int .i64 p0.Why_), (.top, .int .i64 p0.Steps_), (.top, .int .i64 p0.Taken_), ((.own 0), .sl 2 (List.map Ae p0.Out_)), (.top, .int .u32 p0.Entry_), (.top, .int .u32 p0.Vector_), (.top, .int .u32 p0.Guard_), (.top, .int .u32 p0.Limit_), ((.own 0), .sl 1 (List.map (eI .i32) p0.Input_))]) (fun q => .int .u32 q) ⟨true, []⟩ (by kernel_rfl) (by kernel_rfl) (by kernel_rfl) (by kernel_rfl) (by kernel_rfl) (fun _ => rfl) (by kernel_rfl)) ?_
 exact ye
 exact ⟨(T_ref04_Cpu.mk v58 p0.PC_ p0.EPC_ p0.Cause_ p0.State_ p0.Why_ p0.Steps_ p0.Taken_ p0.Out_ p0.Entry_ p0.Vector_ p0.Guard_ p0.Limit_ p0.Input_), hF, (by kernel_rfl)⟩
 refine yF h55 ⟨L48, [B34, B6], H⟩ ?_
 refine Am ?_
 exact ⟨(T_ref04_Cpu.mk v52 p0.PC_ p0.EPC_ p0.Cause_ p0.State_ p0.Why_ p0.Steps_ p0.Taken_ p0.Out_ p0.Entry_ p0.Vector_ p0.Guard_ p0.Limit_ p0.Input_), hF, (by kernel_rfl)⟩
 refine yF h46 ⟨L48, [B4, B6], H⟩ ?_
 refine Am ?_
 exact ⟨p0, hF, (by kernel_rfl)⟩
noncomputable def Nm (j20 : Int) (j21 : T_ref04_Cpu) (j22 : T_ref03_Mem) : Option (T_ref04_Cpu × T_ref03_Mem) :=
  some ((T_ref04_Cpu.mk j21.R_ j20 j21.EPC_ j21.Cause_ j21.State_ j21.Why_ j21.Steps_ j21.Taken_ j21.Out_ j21.Entry_ j21.Vector_ j21.Guard_ j21.Limit_ j21.Input_), j22)
noncomputable def Nn (j28 : Int) (j29 : T_ref04_Cpu) (j30 : T_ref03_Mem) : Option (T_ref04_Cpu × T_ref03_Mem) :=
  Nm j28 j29 j30
noncomputable def Np (j36 : Int) (j37 : T_ref04_Cpu) (j38 : T_ref03_Mem) : Option (T_ref04_Cpu × T_ref03_Mem) :=
  Nn j36 j37 j38
noncomputable def Nq (j44 : Int) (j45 : T_ref04_Cpu) (j46 : T_ref03_Mem) : Option (T_ref04_Cpu × T_ref03_Mem) :=
  Np j44 j45 j46
noncomputable def Nr (j52 : Int) (j53 : T_ref04_Cpu) (j54 : T_ref03_Mem) : Option (T_ref04_Cpu × T_ref03_Mem) :=
  Nq j52 j53 j54
noncomputable def Ns (j60 : Int) (j61 : T_ref04_Cpu) (j62 : T_ref03_Mem) : Option (T_ref04_Cpu × T_ref03_Mem) :=
  Nr j60 j61 j62
noncomputable def Nt (j74 : Int) (j75 : T_ref04_Cpu) (j76 : T_ref03_Mem) : Option (T_ref04_Cpu × T_ref03_Mem) :=
  Ns j74 j75 j76
noncomputable def Nu (p1 : T_ref03_Mem) (j84 : Int) (j85 : T_ref04_Cpu) : Option (T_ref04_Cpu × T_ref03_Mem) :=
  Nt j84 j85 p1
noncomputable def Nv (p1 : T_ref03_Mem) (p0 : T_ref04_Cpu) (j87 : Int) : Option (T_ref04_Cpu × T_ref03_Mem) :=
  Nu p1 j87 p0
noncomputable def Lv (p1 : T_ref03_Mem) (j89 : Int) (j90 : T_ref04_Cpu) : Option (T_ref04_Cpu × T_ref03_Mem) :=
  Nu p1 j89 j90
noncomputable def Lw (p1 : T_ref03_Mem) (p0 : T_ref04_Cpu) (j92 : Int) : Option (T_ref04_Cpu × T_ref03_Mem) :=
  Lv p1 j92 p0
noncomputable def Lx (p1 : T_ref03_Mem) (p0 : T_ref04_Cpu) (p2 : T_ref02_Instr) (j94 : T_ref04_Cpu) : Option (T_ref04_Cpu × T_ref03_Mem) :=
  Lv p1 (IntKind.wrap .u32 ((IntKind.wrap .u32 (p0.PC_ + 4)) + (IntKind.wrap .u32 (4 * (IntKind.wrap .u32 p2.Imm_))))) j94
noncomputable def Cg  (p0 : T_ref04_Cpu) (p1 : T_ref03_Mem) (p2 : T_ref02_Instr) : Option (T_ref04_Cpu × T_ref03_Mem) :=
  Ag (ga p0.R_ p2.A_) fun v1 =>
  Ag (ga p0.R_ p2.B_) fun v3 =>
  if ((decide (p2.Op_ ≥ 6)) && (decide (p2.Op_ ≤ 17))) = true then (Ag (ga p0.R_ p2.C_) fun v7 =>
  Ch (Cd p2.Op_ v3 v7) fun r9 r10 =>
  if (!r10) = true then (Ag (Fm p0 3) fun r13 =>
  some (r13, p1))
  else (Ag (ga p0.R_ p2.A_) fun v15 =>
  Ag (sa p0.R_ p2.A_ r9) fun v17 =>
  some ((T_ref04_Cpu.mk v17 (IntKind.wrap .u32 (p0.PC_ + 4)) p0.EPC_ p0.Cause_ p0.State_ p0.Why_ p0.Steps_ p0.Taken_ p0.Out_ p0.Entry_ p0.Vector_ p0.Guard_ p0.Limit_ p0.Input_), p1)))
  else (if (p2.Op_ == 1) = true then (some ((T_ref04_Cpu.mk p0.R_ p0.PC_ p0.EPC_ p0.Cause_ 1 p0.Why_ p0.Steps_ p0.Taken_ p0.Out_ p0.Entry_ p0.Vector_ p0.Guard_ p0.Limit_ p0.Input_), p1))
  else (if (p2.Op_ == 2) = true then (Ag (ga p0.R_ p2.A_) fun v24 =>
  Ag (sa p0.R_ p2.A_ (IntKind.wrap .u32 p2.Imm_)) fun v26 =>
  Nm (IntKind.wrap .u32 (p0.PC_ + 4)) (T_ref04_Cpu.mk v26 p0.PC_ p0.EPC_ p0.Cause_ p0.State_ p0.Why_ p0.Steps_ p0.Taken_ p0.Out_ p0.Entry_ p0.Vector_ p0.Guard_ p0.Limit_ p0.Input_) p1)
  else (if (p2.Op_ == 3) = true then (Ag (ga p0.R_ p2.A_) fun v32 =>
  Ag (sa p0.R_ p2.A_ (IntKind.wrap .u32 ((IntKind.wrap .u32 p2.Imm_) * 65536))) fun v34 =>
  Nn (IntKind.wrap .u32 (p0.PC_ + 4)) (T_ref04_Cpu.mk v34 p0.PC_ p0.EPC_ p0.Cause_ p0.State_ p0.Why_ p0.Steps_ p0.Taken_ p0.Out_ p0.Entry_ p0.Vector_ p0.Guard_ p0.Limit_ p0.Input_) p1)
  else (if (p2.Op_ == 4) = true then (Ag (ga p0.R_ p2.A_) fun v40 =>
  Ag (sa p0.R_ p2.A_ (A6 .or .u32 v3 (IntKind.wrap .u32 p2.Imm_))) fun v42 =>
  Np (IntKind.wrap .u32 (p0.PC_ + 4)) (T_ref04_Cpu.mk v42 p0.PC_ p0.EPC_ p0.Cause_ p0.State_ p0.Why_ p0.Steps_ p0.Taken_ p0.Out_ p0.Entry_ p0.Vector_ p0.Guard_ p0.Limit_ p0.Input_) p1)
  else (if (p2.Op_ == 5) = true then (Ag (ga p0.R_ p2.A_) fun v48 =>
  Ag (sa p0.R_ p2.A_ (IntKind.wrap .u32 (v3 + (IntKind.wrap .u32 p2.Imm_)))) fun v50 =>
  Nq (IntKind.wrap .u32 (p0.PC_ + 4)) (T_ref04_Cpu.mk v50 p0.PC_ p0.EPC_ p0.Cause_ p0.State_ p0.Why_ p0.Steps_ p0.Taken_ p0.Out_ p0.Entry_ p0.Vector_ p0.Guard_ p0.Limit_ p0.Input_) p1)
  else (if (p2.Op_ == 34) = true then (Ag (ga p0.R_ p2.A_) fun v56 =>
  Ag (sa p0.R_ p2.A_ (A6 .xor .u32 v3 (IntKind.wrap .u32 p2.Imm_))) fun v58 =>
  Nr (IntKind.wrap .u32 (p0.PC_ + 4)) (T_ref04_Cpu.mk v58 p0.PC_ p0.EPC_ p0.Cause_ p0.State_ p0.Why_ p0.Steps_ p0.Taken_ p0.Out_ p0.Entry_ p0.Vector_ p0.Guard_ p0.Limit_ p0.Input_) p1)
  else (if (p2.Op_ == 18) = true then (Ch (Jz p1 (IntKind.wrap .u32 (v3 + (IntKind.wrap .u32 p2.Imm_)))) fun r64 r65 =>
  if (r65 != 0) = true then (Ag (F7 p0 r65) fun r68 =>
  some (r68, p1))
  else (Ag (ga p0.R_ p2.A_) fun v70 =>
  Ag (sa p0.R_ p2.A_ r64) fun v72 =>
  Ns (IntKind.wrap .u32 (p0.PC_ + 4)) (T_ref04_Cpu.mk v72 p0.PC_ p0.EPC_ p0.Cause_ p0.State_ p0.Why_ p0.Steps_ p0.Taken_ p0.Out_ p0.Entry_ p0.Vector_ p0.Guard_ p0.Limit_ p0.Input_) p1))
  else (if (p2.Op_ == 19) = true then (Ch (Lj p1 (IntKind.wrap .u32 (v3 + (IntKind.wrap .u32 p2.Imm_))) v1) fun r78 r79 =>
  if (r79 != 0) = true then (Ag (F7 p0 r79) fun r82 =>
  some (r82, p1))
  else (Nt (IntKind.wrap .u32 (p0.PC_ + 4)) p0 r78))
  else (if (p2.Op_ == 20) = true then (if (v1 == 0) = true then (Nv p1 p0 (IntKind.wrap .u32 ((IntKind.wrap .u32 (p0.PC_ + 4)) + (IntKind.wrap .u32 (4 * (IntKind.wrap .u32 p2.Imm_))))))
  else (Nv p1 p0 (IntKind.wrap .u32 (p0.PC_ + 4))))
  else (if (p2.Op_ == 21) = true then (if (v1 != 0) = true then (Lw p1 p0 (IntKind.wrap .u32 ((IntKind.wrap .u32 (p0.PC_ + 4)) + (IntKind.wrap .u32 (4 * (IntKind.wrap .u32 p2.Imm_))))))
  else (Lw p1 p0 (IntKind.wrap .u32 (p0.PC_ + 4))))
  else (if (p2.Op_ == 22) = true then (Lx p1 p0 p2 p0)
  else (if (p2.Op_ == 23) = true then (Lx p1 p0 p2 (T_ref04_Cpu.mk (Ho [(p0.R_.g 0), (p0.R_.g 1), (p0.R_.g 2), (p0.R_.g 3), (p0.R_.g 4), (p0.R_.g 5), (p0.R_.g 6), (p0.R_.g 7), (p0.R_.g 8), (p0.R_.g 9), (p0.R_.g 10), (p0.R_.g 11), (p0.R_.g 12), (p0.R_.g 13), (IntKind.wrap .u32 (p0.PC_ + 4)), (p0.R_.g 15)] : Arr 16 Int) p0.PC_ p0.EPC_ p0.Cause_ p0.State_ p0.Why_ p0.Steps_ p0.Taken_ p0.Out_ p0.Entry_ p0.Vector_ p0.Guard_ p0.Limit_ p0.Input_))
  else (Ag (Ce p0 p2 v1) fun r97 =>
  some (r97, p1))))))))))))))
theorem dW (H : Ai) {p0 : T_ref04_Cpu} {p1 : T_ref03_Mem} {p2 : T_ref02_Instr} {ra : T_ref04_Cpu} {rb : T_ref03_Mem} (hF : Cg p0 p1 p2 = some (ra, rb)) : evS X 98 [.agg (Ac p0), .agg (Ad p1), .agg (Ay p2)] H = some (.tup [.agg (Ac ra), .agg (Ad rb)], H) := by
 let E1 : EN := (10, vu (IntKind.wrap .u32 p2.Imm_))
 let E2 : EN := (77, vi p2.Op_)
 let B3 : EB := (3, (Ac p0))
 let B4 : EB := (4, (Ad p1))
 let B5 : EB := (5, (Ay p2))
 let B6 : EB := (6, (List.replicate 19 (.top, .int .u32 0) ++ List.replicate 4 (.top, .int .i64 0) ++ [((.own 1), .sl 2 (List.map Ae ([] : List T_api_Event)))] ++ List.replicate 4 (.top, .int .u32 0) ++ [((.own 1), .sl 1 (List.map (eI .i32) ([] : List Int)))]))
 let B7 : EB := (7, (List.replicate 5 (.top, .int .u32 0) ++ [((.own 1), .sl 1 (List.map (eI .u32) ([] : List Int)))]))
 let E9 : EN := (20, vl 5 1)
 let E10 : EN := (21, vi p2.A_)
 let E11 : EN := (23, vl 3 (0 + Int.toNat p2.A_))
 let E12 : EN := (26, vi p2.B_)
 let E13 : EN := (28, vl 3 (0 + Int.toNat p2.B_))
 let E14 : EN := (11, vu p0.PC_)
 let E15 : EN := (12, vu (IntKind.wrap .u32 (p0.PC_ + 4)))
 let E16 : EN := (57, vl 3 (0 + Int.toNat p2.C_))
 let B20 : EB := (7, (Ad p1))
 let E21 : EN := (64, .agg (Ac p0))
 let E22 : EN := (66, .agg (Ad p1))
 let E24 : EN := (71, vl 3 (0 + Int.toNat p2.A_))
 let E28 : EN := (75, .agg (Ad p1))
 let B29 : EB := (3, (arM .u32 16 p0.R_ ++ [(.top, .int .u32 p0.PC_), (.top, .int .u32 p0.EPC_), (.top, .int .u32 p0.Cause_), (.top, .int .i64 1), (.top, .int .i64 p0.Why_), (.top, .int .i64 p0.Steps_), (.top, .int .i64 p0.Taken_), ((.own 0), .sl 2 (List.map Ae p0.Out_)), (.top, .int .u32 p0.Entry_), (.top, .int .u32 p0.Vector_), (.top, .int .u32 p0.Guard_), (.top, .int .u32 p0.Limit_), ((.own 0), .sl 1 (List.map (eI .i32) p0.Input_))]))
 let B30 : EB := (6, (arM .u32 16 p0.R_ ++ [(.top, .int .u32 p0.PC_), (.top, .int .u32 p0.EPC_), (.top, .int .u32 p0.Cause_), (.top, .int .i64 1), (.top, .int .i64 p0.Why_), (.top, .int .i64 p0.Steps_), (.top, .int .i64 p0.Taken_), ((.own 0), .sl 2 (List.map Ae p0.Out_)), (.top, .int .u32 p0.Entry_), (.top, .int .u32 p0.Vector_), (.top, .int .u32 p0.Guard_), (.top, .int .u32 p0.Limit_), ((.own 0), .sl 1 (List.map (eI .i32) p0.Input_))]))
 let E31 : EN := (86, .agg (arM .u32 16 p0.R_ ++ [(.top, .int .u32 p0.PC_), (.top, .int .u32 p0.EPC_), (.top, .int .u32 p0.Cause_), (.top, .int .i64 1), (.top, .int .i64 p0.Why_), (.top, .int .i64 p0.Steps_), (.top, .int .i64 p0.Taken_), ((.own 0), .sl 2 (List.map Ae p0.Out_)), (.top, .int .u32 p0.Entry_), (.top, .int .u32 p0.Vector_), (.top, .int .u32 p0.Guard_), (.top, .int .u32 p0.Limit_), ((.own 0), .sl 1 (List.map (eI .i32) p0.Input_))]))
 let E32 : EN := (87, .agg (Ad p1))
 let E39 : EN := (94, vl 3 (0 + Int.toNat p2.A_))
 let E41 : EN := (102, vl 3 (0 + Int.toNat p2.A_))
 let E43 : EN := (111, vl 3 (0 + Int.toNat p2.A_))
 let E45 : EN := (120, vl 3 (0 + Int.toNat p2.A_))
 let E47 : EN := (129, vl 3 (0 + Int.toNat p2.A_))
 let E51 : EN := (142, .agg (Ac p0))
 let E52 : EN := (145, .agg (Ad p1))
 let E55 : EN := (150, vl 3 (0 + Int.toNat p2.A_))
 let E56 : EN := (18, vl 18 0)
 let E61 : EN := (164, .agg (Ac p0))
 let E62 : EN := (167, .agg (Ad p1))
 let E64 : EN := (13, vu (IntKind.wrap .u32 ((IntKind.wrap .u32 (p0.PC_ + 4)) + (IntKind.wrap .u32 (4 * (IntKind.wrap .u32 p2.Imm_))))))
 let B65 : EB := (3, (arM .u32 14 p0.R_ ++ [(.top, .int .u32 (IntKind.wrap .u32 (p0.PC_ + 4))), (.top, .int .u32 (p0.R_.g 15)), (.top, .int .u32 p0.PC_), (.top, .int .u32 p0.EPC_), (.top, .int .u32 p0.Cause_), (.top, .int .i64 p0.State_), (.top, .int .i64 p0.Why_), (.top, .int .i64 p0.Steps_), (.top, .int .i64 p0.Taken_), ((.own 0), .sl 2 (List.map Ae p0.Out_)), (.top, .int .u32 p0.Entry_), (.top, .int .u32 p0.Vector_), (.top, .int .u32 p0.Guard_), (.top, .int .u32 p0.Limit_), ((.own 0), .sl 1 (List.map (eI .i32) p0.Input_))]))
 let E67 : EN := (78, .agg (Ac p0))
 let E68 : EN := (79, .agg (Ay p2))
 let E69 : EN := (82, .agg (Ad p1))
 let L71 : List EN := [(6, vl 6 0), (7, vl 7 0)]
 let L72 : List EN := [(3, vl 3 0), (4, vl 4 0), (5, vl 5 0)] ++ L71
 let L73 : List EN := [(3, vl 3 0), (4, vl 4 0)] ++ L71
 let L75 : List EN := [E15, E64]
 let L83 : List EN := L73 ++ [E15]
 let L84 : List EN := L72 ++ [E9, E10, (22, vl 3 0)]
 let L85 : List EN := L72 ++ [E1, E15]
 let L95 : List EN := L73 ++ [(12, vu (IntKind.wrap .u32 ((IntKind.wrap .u32 (p0.PC_ + 4)) + (IntKind.wrap .u32 (4 * (IntKind.wrap .u32 p2.Imm_))))))]
 let L101 : List EN := L85 ++ [(90, vl 5 1), (91, vi p2.A_), (92, vu (IntKind.wrap .u32 p2.Imm_)), (93, vl 3 0)]
 let L102 : List EN := L85 ++ [(97, vl 5 1), (98, vi p2.A_), (99, vu (IntKind.wrap .u32 p2.Imm_)), (100, vu (IntKind.wrap .u32 ((IntKind.wrap .u32 p2.Imm_) * 65536))), (101, vl 3 0)]
 refine yf Try.func98 true ⟨[(0, .agg (Ac p0)), (1, .agg (Ad p1)), (2, .agg (Ay p2))], [], H⟩ ?_
 unfold Cg at hF
 refine ysg ⟨L72, [B3, B4, B5, B6, B7], H⟩ ?_
 refine Ah ?_
 obtain ⟨v1, h2, hF⟩ := Ab hF
 let L74 : List EN := L72 ++ [(8, vu v1)]
 let L87 : List EN := [E11, (24, vu v1), (25, vl 5 2)]
 let L91 : List EN := L73 ++ [(8, vu v1)]
 let L94 : List EN := L74 ++ [E67, E68, (80, vu v1)]
 let L97 : List EN := L84 ++ L87 ++ [E12, (27, vl 3 0)]
 let L106 : List EN := L74 ++ [E14] ++ L75 ++ [E2]
 let L109 : List EN := L74 ++ [E14, E64, E2]
 obtain ⟨v3, h4, hF⟩ := Ab hF
 let E8 : EN := (9, vu v3)
 let L76 : List EN := L74 ++ [E8, E1]
 let L77 : List EN := [E8, E1, E15]
 let L78 : List EN := L76 ++ [E14] ++ L75
 let L79 : List EN := L72 ++ L77
 let L80 : List EN := L72 ++ [E8, E15]
 let L81 : List EN := L78 ++ [E2]
 let L82 : List EN := [(51, vl 5 0), (52, vi p2.Op_), (53, vu v3)]
 let L86 : List EN := L82 ++ [(54, vl 5 3), (55, vi p2.C_), (56, vl 3 0)]
 let L96 : List EN := L78 ++ [(42, vl 5 0), (43, vi p2.Op_)]
 let L98 : List EN := L79 ++ [(105, vl 5 1), (106, vi p2.A_), (107, vu v3), (108, vu (IntKind.wrap .u32 p2.Imm_)), (109, vu (A6 .or .u32 v3 (IntKind.wrap .u32 p2.Imm_))), (110, vl 3 0)]
 let L99 : List EN := L79 ++ [(114, vl 5 1), (115, vi p2.A_), (116, vu v3), (117, vu (IntKind.wrap .u32 p2.Imm_)), (118, vu (IntKind.wrap .u32 (v3 + (IntKind.wrap .u32 p2.Imm_)))), (119, vl 3 0)]
 let L100 : List EN := L79 ++ [(123, vl 5 1), (124, vi p2.A_), (125, vu v3), (126, vu (IntKind.wrap .u32 p2.Imm_)), (127, vu (A6 .xor .u32 v3 (IntKind.wrap .u32 p2.Imm_))), (128, vl 3 0)]
 let L105 : List EN := [(133, .agg (Ad p1)), (134, vu v3), (135, vu (IntKind.wrap .u32 p2.Imm_)), (136, vu (IntKind.wrap .u32 (v3 + (IntKind.wrap .u32 p2.Imm_))))]
 let L107 : List EN := [(154, .agg (Ad p1)), (155, vu v3), (156, vu (IntKind.wrap .u32 p2.Imm_)), (157, vu (IntKind.wrap .u32 (v3 + (IntKind.wrap .u32 p2.Imm_)))), (158, vu v1)]
 let L111 : List EN := [E9, E10, (22, vl 3 0)] ++ L87 ++ [E12, (27, vl 3 0), E13, (29, vu v3)]
 refine Bn (.take 0 (.take 1 (.take 2 (.take 3 (.take 4 (.take 5 (.take 6 (.take 7 (.take 8 (.take 9 (.take 10 (.take 11 .done)))))))))))) (by kernel_rfl) (⟨L74 ++ [E8], [B3, B4, B5, B6, B7], H⟩ : St) ?_ ?_
 refine ydk 3 ⟨L84, [B3, B4, B5, B6, B7], H⟩ ?_
 refine Ao ⟨L84 ++ [E11], [B3, B4, B5, B6, B7], H⟩ (Je (X := X) (⟨L84, [B3, B4, B5, B6, B7], H⟩ : St) 46 35 16 h2 3 0 (some 23) (by kernel_rfl) (by kernel_rfl) (by kernel_rfl) (by kernel_rfl)) ?_
 refine Ao ⟨L84 ++ [E11, (24, vu v1)], [B3, B4, B5, B6, B7], H⟩ (Tp (X := X) (⟨L84 ++ [E11], [B3, B4, B5, B6, B7], H⟩ : St) 35 16 h2 3 0 (Ac p0) (fun q => .int .u32 q) (some 24) (by kernel_rfl) (by kernel_rfl) (by kernel_rfl) (by kernel_rfl) (by kernel_rfl) (by kernel_rfl)) ?_
 refine ydk 3 ⟨L97, [B3, B4, B5, B6, B7], H⟩ ?_
 refine Ao ⟨L97 ++ [E13], [B3, B4, B5, B6, B7], H⟩ (Je (X := X) (⟨L97, [B3, B4, B5, B6, B7], H⟩ : St) 46 35 16 h4 3 0 (some 28) (by kernel_rfl) (by kernel_rfl) (by kernel_rfl) (by kernel_rfl)) ?_
 refine Ao ⟨L97 ++ [E13, (29, vu v3)], [B3, B4, B5, B6, B7], H⟩ (Tp (X := X) (⟨L97 ++ [E13], [B3, B4, B5, B6, B7], H⟩ : St) 35 16 h4 3 0 (Ac p0) (fun q => .int .u32 q) (some 29) (by kernel_rfl) (by kernel_rfl) (by kernel_rfl) (by kernel_rfl) (by kernel_rfl) (by kernel_rfl)) ?_
 refine ydk 2 ⟨L74 ++ [E8] ++ L111, [B3, B4, B5, B6, B7], H⟩ ?_
 exact yde
 refine ysg ⟨L76, [B3, B4, B5, B6, B7], H⟩ ?_
 refine ysg ⟨L76 ++ [E14], [B3, B4, B5, B6, B7], H⟩ ?_
 refine ysg ⟨L76 ++ [E14, E15], [B3, B4, B5, B6, B7], H⟩ ?_
 refine ysg ⟨L78, [B3, B4, B5, B6, B7], H⟩ ?_
 refine Ah ?_
 refine yso ⟨L78 ++ [(49, vb ((decide (p2.Op_ ≥ 6)) && (decide (p2.Op_ ≤ 17))))], [B3, B4, B5, B6, B7], H⟩ ?_ ?_
 refine yr 4 ⟨L96 ++ [(44, vb (decide (p2.Op_ ≥ 6))), (45, vb (decide (p2.Op_ ≥ 6)))], [B3, B4, B5, B6, B7], H⟩ ?_
 rcases Aw (decide (p2.Op_ ≥ 6)) with h5 | h5
 refine Bc (congrArg (fun q => (⟨L96 ++ [(44, vb q), (45, vb q)], [B3, B4, B5, B6, B7], H⟩ : St)) h5) ?_
 refine yr 4 ⟨L96 ++ [(44, vT), (45, vT), (46, vl 5 0), (47, vi p2.Op_), (48, vb (decide (p2.Op_ ≤ 17))), (49, vb (decide (p2.Op_ ≤ 17)))], [B3, B4, B5, B6, B7], H⟩ ?_
 refine Bw (congrArg (fun q0 => (⟨L78 ++ [(49, vb q0)], [B3, B4, B5, B6, B7], H⟩ : St)) (show (decide (p2.Op_ ≤ 17)) = ((decide (p2.Op_ ≥ 6)) && (decide (p2.Op_ ≤ 17))) by simp [h5])) ?_
 exact ye
 refine Bc (congrArg (fun q => (⟨L96 ++ [(44, vb q), (45, vb q)], [B3, B4, B5, B6, B7], H⟩ : St)) h5) ?_
 refine yr 4 ⟨L96 ++ [(44, vF), (45, vF), (46, vN), (47, vN), (48, vN), (49, vF)], [B3, B4, B5, B6, B7], H⟩ ?_
 refine Bw (congrArg (fun q0 => (⟨L78 ++ [(49, vb q0)], [B3, B4, B5, B6, B7], H⟩ : St)) (show false = ((decide (p2.Op_ ≥ 6)) && (decide (p2.Op_ ≤ 17))) by simp [h5])) ?_
 exact ye
 rcases Af hF with ⟨h6, hF⟩ | ⟨h6, hF⟩
 refine yT h6 ⟨L80, [B3, B4, B5, B6, B7], H⟩ ?_
 refine Ah ?_
 obtain ⟨v7, h8, hF⟩ := Ab hF
 let L90 : List EN := L86 ++ [E16, (58, vu v7)]
 obtain ⟨r9, r10, c11, hF⟩ := Bg hF
 let E17 : EN := (59, .tup [vu r9, vb r10])
 let E18 : EN := (50, .tup [vu r9, vb r10])
 let L88 : List EN := L72 ++ [E15, (14, vu r9)]
 let L103 : List EN := L88 ++ [(67, vl 5 1), (68, vi p2.A_), (69, vu r9), (70, vl 3 0)]
 let L110 : List EN := [E18] ++ L90 ++ [E17, (60, vu r9), (61, vb r10)]
 refine Bn (.take 0 (.take 1 (.take 2 (.take 3 (.take 4 (.take 5 (.take 6 (.last 7 (.last 8 (.take 9 (.take 10 (.take 11 (.take 12 (.take 13 .done)))))))))))))) (by kernel_rfl) (⟨L88 ++ [(15, vb r10)], [B3, B4, B5, B6, B7], H⟩ : St) ?_ ?_
 refine ydk 6 ⟨L80 ++ L86, [B3, B4, B5, B6, B7], H⟩ ?_
 refine Ao ⟨L80 ++ L86 ++ [E16], [B3, B4, B5, B6, B7], H⟩ (Je (X := X) (⟨L80 ++ L86, [B3, B4, B5, B6, B7], H⟩ : St) 46 35 16 h8 3 0 (some 57) (by kernel_rfl) (by kernel_rfl) (by kernel_rfl) (by kernel_rfl)) ?_
 refine Bo ⟨L80 ++ L90, [B3, B4, B5, B6, B7], H⟩ (Tp (X := X) (⟨L80 ++ L86 ++ [E16], [B3, B4, B5, B6, B7], H⟩ : St) 35 16 h8 3 0 (Ac p0) (fun q => .int .u32 q) (some 58) (by kernel_rfl) (by kernel_rfl) (by kernel_rfl) (by kernel_rfl) (by kernel_rfl) (by kernel_rfl)) ?_
 refine Bo ⟨L80 ++ L90 ++ [E17], [B3, B4, B5, B6, B7], H⟩ (yc (some 59) true false (⟨L80 ++ L90, [B3, B4, B5, B6, B7], H⟩ : St) (Wf H c11)) ?_
 refine ydk 5 ⟨L80 ++ [(14, vu r9), (15, vb r10)] ++ L110, [B3, B4, B5, B6, B7], H⟩ ?_
 exact yde
 refine Ah ?_
 refine ysg ⟨L88 ++ [(63, vb (!r10))], [B3, B4, B5, B6, B7], H⟩ ?_
 rcases Af hF with ⟨h12, hF⟩ | ⟨h12, hF⟩
 refine yT h12 ⟨L73, [B3, B4, B6, B7], H⟩ ?_
 refine Ah ?_
 obtain ⟨r13, c14, hF⟩ := Ab hF
 let B19 : EB := (6, (Ac r13))
 let L108 : List EN := L73 ++ [E21, (65, .agg (Ac r13)), E22]
 refine Bn (.take 0 (.take 2 (.last 1 (.last 3 (.last 4 .done))))) (by kernel_rfl) (⟨L71, [B19, B20], H⟩ : St) ?_ ?_
 refine ydk 2 ⟨L73 ++ [E21, E22], [B3, B4, B6, B7], H⟩ ?_
 refine Bo ⟨L108, [B3, B4, B6, B7], H⟩ (yc (some 65) true false (⟨L73 ++ [E21, E22], [B3, B4, B6, B7], H⟩ : St) (Gd H c14)) ?_
 refine ydl ⟨L108, [B3, B4, B19, B7], H⟩ ?_
 refine ydl ⟨L108, [B3, B4, B19, B20], H⟩ ?_
 exact yde
 refine As ?_
 obtain ⟨e0, e1⟩ := Ap hF
 subst e0
 subst e1
 exact yp (.tup [.agg (Ac r13), .agg (Ad p1)])
 refine yF h12 ⟨L88, [B3, B4, B5, B6, B7], H⟩ ?_
 refine Am ?_
 refine Ah ?_
 obtain ⟨v15, h16, hF⟩ := Ab hF
 obtain ⟨v17, h18, hF⟩ := Ab hF
 let B23 : EB := (3, (arM .u32 16 v17 ++ [(.top, .int .u32 p0.PC_), (.top, .int .u32 p0.EPC_), (.top, .int .u32 p0.Cause_), (.top, .int .i64 p0.State_), (.top, .int .i64 p0.Why_), (.top, .int .i64 p0.Steps_), (.top, .int .i64 p0.Taken_), ((.own 0), .sl 2 (List.map Ae p0.Out_)), (.top, .int .u32 p0.Entry_), (.top, .int .u32 p0.Vector_), (.top, .int .u32 p0.Guard_), (.top, .int .u32 p0.Limit_), ((.own 0), .sl 1 (List.map (eI .i32) p0.Input_))]))
 let B25 : EB := (3, (arM .u32 16 v17 ++ [(.top, .int .u32 (IntKind.wrap .u32 (p0.PC_ + 4))), (.top, .int .u32 p0.EPC_), (.top, .int .u32 p0.Cause_), (.top, .int .i64 p0.State_), (.top, .int .i64 p0.Why_), (.top, .int .i64 p0.Steps_), (.top, .int .i64 p0.Taken_), ((.own 0), .sl 2 (List.map Ae p0.Out_)), (.top, .int .u32 p0.Entry_), (.top, .int .u32 p0.Vector_), (.top, .int .u32 p0.Guard_), (.top, .int .u32 p0.Limit_), ((.own 0), .sl 1 (List.map (eI .i32) p0.Input_))]))
 let B26 : EB := (6, (arM .u32 16 v17 ++ [(.top, .int .u32 (IntKind.wrap .u32 (p0.PC_ + 4))), (.top, .int .u32 p0.EPC_), (.top, .int .u32 p0.Cause_), (.top, .int .i64 p0.State_), (.top, .int .i64 p0.Why_), (.top, .int .i64 p0.Steps_), (.top, .int .i64 p0.Taken_), ((.own 0), .sl 2 (List.map Ae p0.Out_)), (.top, .int .u32 p0.Entry_), (.top, .int .u32 p0.Vector_), (.top, .int .u32 p0.Guard_), (.top, .int .u32 p0.Limit_), ((.own 0), .sl 1 (List.map (eI .i32) p0.Input_))]))
 let E27 : EN := (74, .agg (arM .u32 16 v17 ++ [(.top, .int .u32 (IntKind.wrap .u32 (p0.PC_ + 4))), (.top, .int .u32 p0.EPC_), (.top, .int .u32 p0.Cause_), (.top, .int .i64 p0.State_), (.top, .int .i64 p0.Why_), (.top, .int .i64 p0.Steps_), (.top, .int .i64 p0.Taken_), ((.own 0), .sl 2 (List.map Ae p0.Out_)), (.top, .int .u32 p0.Entry_), (.top, .int .u32 p0.Vector_), (.top, .int .u32 p0.Guard_), (.top, .int .u32 p0.Limit_), ((.own 0), .sl 1 (List.map (eI .i32) p0.Input_))]))
 refine Ak ⟨L83, [B23, B4, B6, B7], H⟩ ?_ ?_
 refine yr 4 ⟨L103, [B3, B4, B5, B6, B7], H⟩ ?_
 refine Aj ⟨L103 ++ [E24], [B3, B4, B5, B6, B7], H⟩ (Je (X := X) (⟨L103, [B3, B4, B5, B6, B7], H⟩ : St) 46 35 16 h16 3 0 (some 71) (by kernel_rfl) (by kernel_rfl) (by kernel_rfl) (by kernel_rfl)) ?_
 refine Aj ⟨L103 ++ [E24], [B23, B4, B5, B6, B7], H⟩ (Ot (X := X) (⟨L103 ++ [E24], [B3, B4, B5, B6, B7], H⟩ : St) 35 16 h18 3 0 (Ac p0) (fun q => .int .u32 q) ⟨true, []⟩ (by kernel_rfl) (by kernel_rfl) (by kernel_rfl) (by kernel_rfl) (by kernel_rfl) (fun _ => rfl) (by kernel_rfl)) ?_
 exact ye
 refine ysg ⟨L73, [B25, B4, B6, B7], H⟩ ?_
 refine Ah ?_
 refine Bn (.take 0 (.take 1 (.last 2 (.last 3 .done)))) (by kernel_rfl) (⟨L71, [B26, B20], H⟩ : St) ?_ ?_
 refine ydk 2 ⟨L73 ++ [E27, E28], [B25, B4, B6, B7], H⟩ ?_
 refine ydl ⟨L73 ++ [E27, E28], [B25, B4, B26, B7], H⟩ ?_
 refine ydl ⟨L73 ++ [E27, E28], [B25, B4, B26, B20], H⟩ ?_
 exact yde
 refine As ?_
 obtain ⟨e0, e1⟩ := Ap hF
 subst e0
 subst e1
 exact yp (.tup [.agg (arM .u32 16 v17 ++ [(.top, .int .u32 (IntKind.wrap .u32 (p0.PC_ + 4))), (.top, .int .u32 p0.EPC_), (.top, .int .u32 p0.Cause_), (.top, .int .i64 p0.State_), (.top, .int .i64 p0.Why_), (.top, .int .i64 p0.Steps_), (.top, .int .i64 p0.Taken_), ((.own 0), .sl 2 (List.map Ae p0.Out_)), (.top, .int .u32 p0.Entry_), (.top, .int .u32 p0.Vector_), (.top, .int .u32 p0.Guard_), (.top, .int .u32 p0.Limit_), ((.own 0), .sl 1 (List.map (eI .i32) p0.Input_))]), .agg (Ad p1)])
 refine yF h6 ⟨L78, [B3, B4, B5, B6, B7], H⟩ ?_
 refine Am ?_
 refine Ah ?_
 refine ysg ⟨L81, [B3, B4, B5, B6, B7], H⟩ ?_
 refine Bs ?_
 refine ysg ⟨L81 ++ [(83, vb (p2.Op_ == 1))], [B3, B4, B5, B6, B7], H⟩ ?_
 rcases Af hF with ⟨h19, hF⟩ | ⟨h19, hF⟩
 refine yT h19 ⟨L73, [B3, B4, B6, B7], H⟩ ?_
 refine ysg ⟨L73, [B29, B4, B6, B7], H⟩ ?_
 refine Ah ?_
 refine Bn (.take 0 (.take 1 (.last 2 (.last 3 .done)))) (by kernel_rfl) (⟨L71, [B30, B20], H⟩ : St) ?_ ?_
 refine ydk 2 ⟨L73 ++ [E31, E32], [B29, B4, B6, B7], H⟩ ?_
 refine ydl ⟨L73 ++ [E31, E32], [B29, B4, B30, B7], H⟩ ?_
 refine ydl ⟨L73 ++ [E31, E32], [B29, B4, B30, B20], H⟩ ?_
 exact yde
 refine As ?_
 obtain ⟨e0, e1⟩ := Ap hF
 subst e0
 subst e1
 exact yp (.tup [.agg (arM .u32 16 p0.R_ ++ [(.top, .int .u32 p0.PC_), (.top, .int .u32 p0.EPC_), (.top, .int .u32 p0.Cause_), (.top, .int .i64 1), (.top, .int .i64 p0.Why_), (.top, .int .i64 p0.Steps_), (.top, .int .i64 p0.Taken_), ((.own 0), .sl 2 (List.map Ae p0.Out_)), (.top, .int .u32 p0.Entry_), (.top, .int .u32 p0.Vector_), (.top, .int .u32 p0.Guard_), (.top, .int .u32 p0.Limit_), ((.own 0), .sl 1 (List.map (eI .i32) p0.Input_))]), .agg (Ad p1)])
 refine yF h19 ⟨L81, [B3, B4, B5, B6, B7], H⟩ ?_
 refine ysg ⟨L81 ++ [(88, vb (p2.Op_ == 2))], [B3, B4, B5, B6, B7], H⟩ ?_
 refine Ar (α := (Int × T_ref04_Cpu × T_ref03_Mem)) (fun x => (⟨L73 ++ [(12, vu x.1)], [(3, (Ac x.2.1)), (4, (Ad x.2.2)), B6, B7], H⟩ : St)) (fun x => Nm x.1 x.2.1 x.2.2 = some (ra, rb)) ?_ ?_
 rintro ⟨j20, j21, j22⟩ hF
 replace hF : Nm j20 j21 j22 = some (ra, rb) := hF
 let B33 : EB := (3, (arM .u32 16 j21.R_ ++ [(.top, .int .u32 j20), (.top, .int .u32 j21.EPC_), (.top, .int .u32 j21.Cause_), (.top, .int .i64 j21.State_), (.top, .int .i64 j21.Why_), (.top, .int .i64 j21.Steps_), (.top, .int .i64 j21.Taken_), ((.own 0), .sl 2 (List.map Ae j21.Out_)), (.top, .int .u32 j21.Entry_), (.top, .int .u32 j21.Vector_), (.top, .int .u32 j21.Guard_), (.top, .int .u32 j21.Limit_), ((.own 0), .sl 1 (List.map (eI .i32) j21.Input_))]))
 let B34 : EB := (4, (Ad j22))
 let B35 : EB := (6, (arM .u32 16 j21.R_ ++ [(.top, .int .u32 j20), (.top, .int .u32 j21.EPC_), (.top, .int .u32 j21.Cause_), (.top, .int .i64 j21.State_), (.top, .int .i64 j21.Why_), (.top, .int .i64 j21.Steps_), (.top, .int .i64 j21.Taken_), ((.own 0), .sl 2 (List.map Ae j21.Out_)), (.top, .int .u32 j21.Entry_), (.top, .int .u32 j21.Vector_), (.top, .int .u32 j21.Guard_), (.top, .int .u32 j21.Limit_), ((.own 0), .sl 1 (List.map (eI .i32) j21.Input_))]))
 let E36 : EN := (191, .agg (arM .u32 16 j21.R_ ++ [(.top, .int .u32 j20), (.top, .int .u32 j21.EPC_), (.top, .int .u32 j21.Cause_), (.top, .int .i64 j21.State_), (.top, .int .i64 j21.Why_), (.top, .int .i64 j21.Steps_), (.top, .int .i64 j21.Taken_), ((.own 0), .sl 2 (List.map Ae j21.Out_)), (.top, .int .u32 j21.Entry_), (.top, .int .u32 j21.Vector_), (.top, .int .u32 j21.Guard_), (.top, .int .u32 j21.Limit_), ((.own 0), .sl 1 (List.map (eI .i32) j21.Input_))]))
 let E37 : EN := (192, .agg (Ad j22))
 unfold Nm at hF
 refine ysg ⟨L73, [B33, B34, B6, B7], H⟩ ?_
 refine Ah ?_
 refine Bn (.take 0 (.take 1 (.last 2 (.last 3 .done)))) (by kernel_rfl) (⟨L71, [B35, (7, (Ad j22))], H⟩ : St) ?_ ?_
 refine ydk 2 ⟨L73 ++ [E36, E37], [B33, B34, B6, B7], H⟩ ?_
 refine ydl ⟨L73 ++ [E36, E37], [B33, B34, B35, B7], H⟩ ?_
 refine ydl ⟨L73 ++ [E36, E37], [B33, B34, B35, (7, (Ad j22))], H⟩ ?_
 exact yde
 refine As ?_
 obtain ⟨e0, e1⟩ := Ap hF
 subst e0
 subst e1
 exact yp (.tup [.agg (arM .u32 16 j21.R_ ++ [(.top, .int .u32 j20), (.top, .int .u32 j21.EPC_), (.top, .int .u32 j21.Cause_), (.top, .int .i64 j21.State_), (.top, .int .i64 j21.Why_), (.top, .int .i64 j21.Steps_), (.top, .int .i64 j21.Taken_), ((.own 0), .sl 2 (List.map Ae j21.Out_)), (.top, .int .u32 j21.Entry_), (.top, .int .u32 j21.Vector_), (.top, .int .u32 j21.Guard_), (.top, .int .u32 j21.Limit_), ((.own 0), .sl 1 (List.map (eI .i32) j21.Input_))]), .agg (Ad j22)])
 rcases Af hF with ⟨h23, hF⟩ | ⟨h23, hF⟩
 refine yT h23 ⟨L85, [B3, B4, B5, B6, B7], H⟩ ?_
 obtain ⟨v24, h25, hF⟩ := Ab hF
 obtain ⟨v26, h27, hF⟩ := Ab hF
 let B38 : EB := (3, (arM .u32 16 v26 ++ [(.top, .int .u32 p0.PC_), (.top, .int .u32 p0.EPC_), (.top, .int .u32 p0.Cause_), (.top, .int .i64 p0.State_), (.top, .int .i64 p0.Why_), (.top, .int .i64 p0.Steps_), (.top, .int .i64 p0.Taken_), ((.own 0), .sl 2 (List.map Ae p0.Out_)), (.top, .int .u32 p0.Entry_), (.top, .int .u32 p0.Vector_), (.top, .int .u32 p0.Guard_), (.top, .int .u32 p0.Limit_), ((.own 0), .sl 1 (List.map (eI .i32) p0.Input_))]))
 refine Ak ⟨L83, [B38, B4, B6, B7], H⟩ ?_ ?_
 refine yr 4 ⟨L101, [B3, B4, B5, B6, B7], H⟩ ?_
 refine Aj ⟨L101 ++ [E39], [B3, B4, B5, B6, B7], H⟩ (Je (X := X) (⟨L101, [B3, B4, B5, B6, B7], H⟩ : St) 46 35 16 h25 3 0 (some 94) (by kernel_rfl) (by kernel_rfl) (by kernel_rfl) (by kernel_rfl)) ?_
 refine Aj ⟨L101 ++ [E39], [B38, B4, B5, B6, B7], H⟩ (Ot (X := X) (⟨L101 ++ [E39], [B3, B4, B5, B6, B7], H⟩ : St) 35 16 h27 3 0 (Ac p0) (fun q => .int .u32 q) ⟨true, []⟩ (by kernel_rfl) (by kernel_rfl) (by kernel_rfl) (by kernel_rfl) (by kernel_rfl) (fun _ => rfl) (by kernel_rfl)) ?_
 exact ye
 exact ⟨((IntKind.wrap .u32 (p0.PC_ + 4)), (T_ref04_Cpu.mk v26 p0.PC_ p0.EPC_ p0.Cause_ p0.State_ p0.Why_ p0.Steps_ p0.Taken_ p0.Out_ p0.Entry_ p0.Vector_ p0.Guard_ p0.Limit_ p0.Input_), p1), hF, (by kernel_rfl)⟩
 refine yF h23 ⟨L81, [B3, B4, B5, B6, B7], H⟩ ?_
 refine ysg ⟨L81 ++ [(95, vb (p2.Op_ == 3))], [B3, B4, B5, B6, B7], H⟩ ?_
 refine Ar (α := (Int × T_ref04_Cpu × T_ref03_Mem)) (fun x => (⟨L73 ++ [(12, vu x.1)], [(3, (Ac x.2.1)), (4, (Ad x.2.2)), B6, B7], H⟩ : St)) (fun x => Nn x.1 x.2.1 x.2.2 = some (ra, rb)) ?_ ?_
 rintro ⟨j28, j29, j30⟩ hF
 replace hF : Nn j28 j29 j30 = some (ra, rb) := hF
 unfold Nn at hF
 exact ⟨(j28, j29, j30), hF, (by kernel_rfl)⟩
 rcases Af hF with ⟨h31, hF⟩ | ⟨h31, hF⟩
 refine yT h31 ⟨L85, [B3, B4, B5, B6, B7], H⟩ ?_
 obtain ⟨v32, h33, hF⟩ := Ab hF
 obtain ⟨v34, h35, hF⟩ := Ab hF
 let B40 : EB := (3, (arM .u32 16 v34 ++ [(.top, .int .u32 p0.PC_), (.top, .int .u32 p0.EPC_), (.top, .int .u32 p0.Cause_), (.top, .int .i64 p0.State_), (.top, .int .i64 p0.Why_), (.top, .int .i64 p0.Steps_), (.top, .int .i64 p0.Taken_), ((.own 0), .sl 2 (List.map Ae p0.Out_)), (.top, .int .u32 p0.Entry_), (.top, .int .u32 p0.Vector_), (.top, .int .u32 p0.Guard_), (.top, .int .u32 p0.Limit_), ((.own 0), .sl 1 (List.map (eI .i32) p0.Input_))]))
 refine Ak ⟨L83, [B40, B4, B6, B7], H⟩ ?_ ?_
 refine yr 5 ⟨L102, [B3, B4, B5, B6, B7], H⟩ ?_
 refine Aj ⟨L102 ++ [E41], [B3, B4, B5, B6, B7], H⟩ (Je (X := X) (⟨L102, [B3, B4, B5, B6, B7], H⟩ : St) 46 35 16 h33 3 0 (some 102) (by kernel_rfl) (by kernel_rfl) (by kernel_rfl) (by kernel_rfl)) ?_
 refine Aj ⟨L102 ++ [E41], [B40, B4, B5, B6, B7], H⟩ (Ot (X := X) (⟨L102 ++ [E41], [B3, B4, B5, B6, B7], H⟩ : St) 35 16 h35 3 0 (Ac p0) (fun q => .int .u32 q) ⟨true, []⟩ (by kernel_rfl) (by kernel_rfl) (by kernel_rfl) (by kernel_rfl) (by kernel_rfl) (fun _ => rfl) (by kernel_rfl)) ?_
 exact ye
 exact ⟨((IntKind.wrap .u32 (p0.PC_ + 4)), (T_ref04_Cpu.mk v34 p0.PC_ p0.EPC_ p0.Cause_ p0.State_ p0.Why_ p0.Steps_ p0.Taken_ p0.Out_ p0.Entry_ p0.Vector_ p0.Guard_ p0.Limit_ p0.Input_), p1), hF, (by kernel_rfl)⟩
 refine yF h31 ⟨L81, [B3, B4, B5, B6, B7], H⟩ ?_
 refine ysg ⟨L81 ++ [(103, vb (p2.Op_ == 4))], [B3, B4, B5, B6, B7], H⟩ ?_
 refine Ar (α := (Int × T_ref04_Cpu × T_ref03_Mem)) (fun x => (⟨L73 ++ [(12, vu x.1)], [(3, (Ac x.2.1)), (4, (Ad x.2.2)), B6, B7], H⟩ : St)) (fun x => Np x.1 x.2.1 x.2.2 = some (ra, rb)) ?_ ?_
 rintro ⟨j36, j37, j38⟩ hF
 replace hF : Np j36 j37 j38 = some (ra, rb) := hF
 unfold Np at hF
 exact ⟨(j36, j37, j38), hF, (by kernel_rfl)⟩
 rcases Af hF with ⟨h39, hF⟩ | ⟨h39, hF⟩
 refine yT h39 ⟨L79, [B3, B4, B5, B6, B7], H⟩ ?_
 obtain ⟨v40, h41, hF⟩ := Ab hF
 obtain ⟨v42, h43, hF⟩ := Ab hF
 let B42 : EB := (3, (arM .u32 16 v42 ++ [(.top, .int .u32 p0.PC_), (.top, .int .u32 p0.EPC_), (.top, .int .u32 p0.Cause_), (.top, .int .i64 p0.State_), (.top, .int .i64 p0.Why_), (.top, .int .i64 p0.Steps_), (.top, .int .i64 p0.Taken_), ((.own 0), .sl 2 (List.map Ae p0.Out_)), (.top, .int .u32 p0.Entry_), (.top, .int .u32 p0.Vector_), (.top, .int .u32 p0.Guard_), (.top, .int .u32 p0.Limit_), ((.own 0), .sl 1 (List.map (eI .i32) p0.Input_))]))
 refine Ak ⟨L83, [B42, B4, B6, B7], H⟩ ?_ ?_
 refine yr 6 ⟨L98, [B3, B4, B5, B6, B7], H⟩ ?_
 refine Aj ⟨L98 ++ [E43], [B3, B4, B5, B6, B7], H⟩ (Je (X := X) (⟨L98, [B3, B4, B5, B6, B7], H⟩ : St) 46 35 16 h41 3 0 (some 111) (by kernel_rfl) (by kernel_rfl) (by kernel_rfl) (by kernel_rfl)) ?_
 refine Aj ⟨L98 ++ [E43], [B42, B4, B5, B6, B7], H⟩ (Ot (X := X) (⟨L98 ++ [E43], [B3, B4, B5, B6, B7], H⟩ : St) 35 16 h43 3 0 (Ac p0) (fun q => .int .u32 q) ⟨true, []⟩ (by kernel_rfl) (by kernel_rfl) (by kernel_rfl) (by kernel_rfl) (by kernel_rfl) (fun _ => rfl) (by kernel_rfl)) ?_
 exact ye
 exact ⟨((IntKind.wrap .u32 (p0.PC_ + 4)), (T_ref04_Cpu.mk v42 p0.PC_ p0.EPC_ p0.Cause_ p0.State_ p0.Why_ p0.Steps_ p0.Taken_ p0.Out_ p0.Entry_ p0.Vector_ p0.Guard_ p0.Limit_ p0.Input_), p1), hF, (by kernel_rfl)⟩
 refine yF h39 ⟨L81, [B3, B4, B5, B6, B7], H⟩ ?_
 refine ysg ⟨L81 ++ [(112, vb (p2.Op_ == 5))], [B3, B4, B5, B6, B7], H⟩ ?_
 refine Ar (α := (Int × T_ref04_Cpu × T_ref03_Mem)) (fun x => (⟨L73 ++ [(12, vu x.1)], [(3, (Ac x.2.1)), (4, (Ad x.2.2)), B6, B7], H⟩ : St)) (fun x => Nq x.1 x.2.1 x.2.2 = some (ra, rb)) ?_ ?_
 rintro ⟨j44, j45, j46⟩ hF
 replace hF : Nq j44 j45 j46 = some (ra, rb) := hF
 unfold Nq at hF
 exact ⟨(j44, j45, j46), hF, (by kernel_rfl)⟩
 rcases Af hF with ⟨h47, hF⟩ | ⟨h47, hF⟩
 refine yT h47 ⟨L79, [B3, B4, B5, B6, B7], H⟩ ?_
 obtain ⟨v48, h49, hF⟩ := Ab hF
 obtain ⟨v50, h51, hF⟩ := Ab hF
 let B44 : EB := (3, (arM .u32 16 v50 ++ [(.top, .int .u32 p0.PC_), (.top, .int .u32 p0.EPC_), (.top, .int .u32 p0.Cause_), (.top, .int .i64 p0.State_), (.top, .int .i64 p0.Why_), (.top, .int .i64 p0.Steps_), (.top, .int .i64 p0.Taken_), ((.own 0), .sl 2 (List.map Ae p0.Out_)), (.top, .int .u32 p0.Entry_), (.top, .int .u32 p0.Vector_), (.top, .int .u32 p0.Guard_), (.top, .int .u32 p0.Limit_), ((.own 0), .sl 1 (List.map (eI .i32) p0.Input_))]))
 refine Ak ⟨L83, [B44, B4, B6, B7], H⟩ ?_ ?_
 refine yr 6 ⟨L99, [B3, B4, B5, B6, B7], H⟩ ?_
 refine Aj ⟨L99 ++ [E45], [B3, B4, B5, B6, B7], H⟩ (Je (X := X) (⟨L99, [B3, B4, B5, B6, B7], H⟩ : St) 46 35 16 h49 3 0 (some 120) (by kernel_rfl) (by kernel_rfl) (by kernel_rfl) (by kernel_rfl)) ?_
 refine Aj ⟨L99 ++ [E45], [B44, B4, B5, B6, B7], H⟩ (Ot (X := X) (⟨L99 ++ [E45], [B3, B4, B5, B6, B7], H⟩ : St) 35 16 h51 3 0 (Ac p0) (fun q => .int .u32 q) ⟨true, []⟩ (by kernel_rfl) (by kernel_rfl) (by kernel_rfl) (by kernel_rfl) (by kernel_rfl) (fun _ => rfl) (by kernel_rfl)) ?_
 exact ye
 exact ⟨((IntKind.wrap .u32 (p0.PC_ + 4)), (T_ref04_Cpu.mk v50 p0.PC_ p0.EPC_ p0.Cause_ p0.State_ p0.Why_ p0.Steps_ p0.Taken_ p0.Out_ p0.Entry_ p0.Vector_ p0.Guard_ p0.Limit_ p0.Input_), p1), hF, (by kernel_rfl)⟩
 refine yF h47 ⟨L81, [B3, B4, B5, B6, B7], H⟩ ?_
 refine ysg ⟨L81 ++ [(121, vb (p2.Op_ == 34))], [B3, B4, B5, B6, B7], H⟩ ?_
 refine Ar (α := (Int × T_ref04_Cpu × T_ref03_Mem)) (fun x => (⟨L73 ++ [(12, vu x.1)], [(3, (Ac x.2.1)), (4, (Ad x.2.2)), B6, B7], H⟩ : St)) (fun x => Nr x.1 x.2.1 x.2.2 = some (ra, rb)) ?_ ?_
 rintro ⟨j52, j53, j54⟩ hF
 replace hF : Nr j52 j53 j54 = some (ra, rb) := hF
 unfold Nr at hF
 exact ⟨(j52, j53, j54), hF, (by kernel_rfl)⟩
 rcases Af hF with ⟨h55, hF⟩ | ⟨h55, hF⟩
 refine yT h55 ⟨L79, [B3, B4, B5, B6, B7], H⟩ ?_
 obtain ⟨v56, h57, hF⟩ := Ab hF
 obtain ⟨v58, h59, hF⟩ := Ab hF
 let B46 : EB := (3, (arM .u32 16 v58 ++ [(.top, .int .u32 p0.PC_), (.top, .int .u32 p0.EPC_), (.top, .int .u32 p0.Cause_), (.top, .int .i64 p0.State_), (.top, .int .i64 p0.Why_), (.top, .int .i64 p0.Steps_), (.top, .int .i64 p0.Taken_), ((.own 0), .sl 2 (List.map Ae p0.Out_)), (.top, .int .u32 p0.Entry_), (.top, .int .u32 p0.Vector_), (.top, .int .u32 p0.Guard_), (.top, .int .u32 p0.Limit_), ((.own 0), .sl 1 (List.map (eI .i32) p0.Input_))]))
 refine Ak ⟨L83, [B46, B4, B6, B7], H⟩ ?_ ?_
 refine yr 6 ⟨L100, [B3, B4, B5, B6, B7], H⟩ ?_
 refine Aj ⟨L100 ++ [E47], [B3, B4, B5, B6, B7], H⟩ (Je (X := X) (⟨L100, [B3, B4, B5, B6, B7], H⟩ : St) 46 35 16 h57 3 0 (some 129) (by kernel_rfl) (by kernel_rfl) (by kernel_rfl) (by kernel_rfl)) ?_
 refine Aj ⟨L100 ++ [E47], [B46, B4, B5, B6, B7], H⟩ (Ot (X := X) (⟨L100 ++ [E47], [B3, B4, B5, B6, B7], H⟩ : St) 35 16 h59 3 0 (Ac p0) (fun q => .int .u32 q) ⟨true, []⟩ (by kernel_rfl) (by kernel_rfl) (by kernel_rfl) (by kernel_rfl) (by kernel_rfl) (fun _ => rfl) (by kernel_rfl)) ?_
 exact ye
 exact ⟨((IntKind.wrap .u32 (p0.PC_ + 4)), (T_ref04_Cpu.mk v58 p0.PC_ p0.EPC_ p0.Cause_ p0.State_ p0.Why_ p0.Steps_ p0.Taken_ p0.Out_ p0.Entry_ p0.Vector_ p0.Guard_ p0.Limit_ p0.Input_), p1), hF, (by kernel_rfl)⟩
 refine yF h55 ⟨L81, [B3, B4, B5, B6, B7], H⟩ ?_
 refine ysg ⟨L81 ++ [(130, vb (p2.Op_ == 18))], [B3, B4, B5, B6, B7], H⟩ ?_
 refine Ar (α := (Int × T_ref04_Cpu × T_ref03_Mem)) (fun x => (⟨L73 ++ [(12, vu x.1)], [(3, (Ac x.2.1)), (4, (Ad x.2.2)), B6, B7], H⟩ : St)) (fun x => Ns x.1 x.2.1 x.2.2 = some (ra, rb)) ?_ ?_
 rintro ⟨j60, j61, j62⟩ hF
 replace hF : Ns j60 j61 j62 = some (ra, rb) := hF
 unfold Ns at hF
 exact ⟨(j60, j61, j62), hF, (by kernel_rfl)⟩
 rcases Af hF with ⟨h63, hF⟩ | ⟨h63, hF⟩
 refine yT h63 ⟨L79, [B3, B4, B5, B6, B7], H⟩ ?_
 refine Ah ?_
 obtain ⟨r64, r65, c66, hF⟩ := Bg hF
 let E48 : EN := (17, vi r65)
 let E49 : EN := (137, .tup [vu r64, vi r65])
 let L89 : List EN := L72 ++ [E15, (16, vu r64)]
 let L92 : List EN := L73 ++ [E48, E51, (143, vi r65)]
 let L104 : List EN := L89 ++ [(146, vl 5 1), (147, vi p2.A_), (148, vu r64), (149, vl 3 0)]
 refine Ak ⟨L89 ++ [E48], [B3, B4, B5, B6, B7], H⟩ ?_ ?_
 refine yr 4 ⟨L79 ++ L105, [B3, B4, B5, B6, B7], H⟩ ?_
 refine Aj ⟨L79 ++ L105 ++ [E49], [B3, B4, B5, B6, B7], H⟩ (yc (some 137) true false (⟨L79 ++ L105, [B3, B4, B5, B6, B7], H⟩ : St) (Pj H c66)) ?_
 refine yr 5 ⟨L79 ++ [(16, vu r64), E48, (132, .tup [vu r64, vi r65])] ++ L105 ++ [E49, (138, vu r64), (139, vi r65)], [B3, B4, B5, B6, B7], H⟩ ?_
 exact ye
 refine Ah ?_
 refine ysg ⟨L89 ++ [E48, (141, vb (r65 != 0))], [B3, B4, B5, B6, B7], H⟩ ?_
 rcases Af hF with ⟨h67, hF⟩ | ⟨h67, hF⟩
 refine yT h67 ⟨L73 ++ [E48], [B3, B4, B6, B7], H⟩ ?_
 refine Ah ?_
 obtain ⟨r68, c69, hF⟩ := Ab hF
 let B50 : EB := (6, (Ac r68))
 let E53 : EN := (144, .agg (Ac r68))
 refine Bn (.take 0 (.take 1 (.take 3 (.last 2 (.last 4 (.last 5 .done)))))) (by kernel_rfl) (⟨L71, [B50, B20], H⟩ : St) ?_ ?_
 refine ydk 3 ⟨L92 ++ [E52], [B3, B4, B6, B7], H⟩ ?_
 refine Bo ⟨L92 ++ [E53, E52], [B3, B4, B6, B7], H⟩ (yc (some 144) true false (⟨L92 ++ [E52], [B3, B4, B6, B7], H⟩ : St) (G8 H c69)) ?_
 refine ydl ⟨L92 ++ [E53, E52], [B3, B4, B50, B7], H⟩ ?_
 refine ydl ⟨L92 ++ [E53, E52], [B3, B4, B50, B20], H⟩ ?_
 exact yde
 refine As ?_
 obtain ⟨e0, e1⟩ := Ap hF
 subst e0
 subst e1
 exact yp (.tup [.agg (Ac r68), .agg (Ad p1)])
 refine yF h67 ⟨L89, [B3, B4, B5, B6, B7], H⟩ ?_
 refine Am ?_
 obtain ⟨v70, h71, hF⟩ := Ab hF
 obtain ⟨v72, h73, hF⟩ := Ab hF
 let B54 : EB := (3, (arM .u32 16 v72 ++ [(.top, .int .u32 p0.PC_), (.top, .int .u32 p0.EPC_), (.top, .int .u32 p0.Cause_), (.top, .int .i64 p0.State_), (.top, .int .i64 p0.Why_), (.top, .int .i64 p0.Steps_), (.top, .int .i64 p0.Taken_), ((.own 0), .sl 2 (List.map Ae p0.Out_)), (.top, .int .u32 p0.Entry_), (.top, .int .u32 p0.Vector_), (.top, .int .u32 p0.Guard_), (.top, .int .u32 p0.Limit_), ((.own 0), .sl 1 (List.map (eI .i32) p0.Input_))]))
 refine Ak ⟨L83, [B54, B4, B6, B7], H⟩ ?_ ?_
 refine yr 4 ⟨L104, [B3, B4, B5, B6, B7], H⟩ ?_
 refine Aj ⟨L104 ++ [E55], [B3, B4, B5, B6, B7], H⟩ (Je (X := X) (⟨L104, [B3, B4, B5, B6, B7], H⟩ : St) 46 35 16 h71 3 0 (some 150) (by kernel_rfl) (by kernel_rfl) (by kernel_rfl) (by kernel_rfl)) ?_
 refine Aj ⟨L104 ++ [E55], [B54, B4, B5, B6, B7], H⟩ (Ot (X := X) (⟨L104 ++ [E55], [B3, B4, B5, B6, B7], H⟩ : St) 35 16 h73 3 0 (Ac p0) (fun q => .int .u32 q) ⟨true, []⟩ (by kernel_rfl) (by kernel_rfl) (by kernel_rfl) (by kernel_rfl) (by kernel_rfl) (fun _ => rfl) (by kernel_rfl)) ?_
 exact ye
 exact ⟨((IntKind.wrap .u32 (p0.PC_ + 4)), (T_ref04_Cpu.mk v72 p0.PC_ p0.EPC_ p0.Cause_ p0.State_ p0.Why_ p0.Steps_ p0.Taken_ p0.Out_ p0.Entry_ p0.Vector_ p0.Guard_ p0.Limit_ p0.Input_), p1), hF, (by kernel_rfl)⟩
 refine yF h63 ⟨L81, [B3, B4, B5, B6, B7], H⟩ ?_
 refine ysg ⟨L81 ++ [(151, vb (p2.Op_ == 19))], [B3, B4, B5, B6, B7], H⟩ ?_
 refine Ar (α := (Int × T_ref04_Cpu × T_ref03_Mem)) (fun x => (⟨L73 ++ [(12, vu x.1)], [(3, (Ac x.2.1)), (4, (Ad x.2.2)), B6, B7], H⟩ : St)) (fun x => Nt x.1 x.2.1 x.2.2 = some (ra, rb)) ?_ ?_
 rintro ⟨j74, j75, j76⟩ hF
 replace hF : Nt j74 j75 j76 = some (ra, rb) := hF
 unfold Nt at hF
 exact ⟨(j74, j75, j76), hF, (by kernel_rfl)⟩
 rcases Af hF with ⟨h77, hF⟩ | ⟨h77, hF⟩
 refine yT h77 ⟨L91 ++ L77, [B3, B4, B6, B7], H⟩ ?_
 refine Ah ?_
 obtain ⟨r78, r79, c80, hF⟩ := Bg hF
 let E57 : EN := (19, vi r79)
 let B58 : EB := (18, (Ad r78))
 let E59 : EN := (159, .tup [.agg (Ad r78), vi r79])
 let L93 : List EN := L73 ++ [E57, E61, (165, vi r79)]
 refine Ak ⟨L83 ++ [E56, E57], [B3, B4, B6, B7, B58], H⟩ ?_ ?_
 refine yr 5 ⟨L91 ++ L77 ++ L107, [B3, B4, B6, B7], H⟩ ?_
 refine Aj ⟨L91 ++ L77 ++ L107 ++ [E59], [B3, B4, B6, B7], H⟩ (yc (some 159) true false (⟨L91 ++ L77 ++ L107, [B3, B4, B6, B7], H⟩ : St) (Za H c80)) ?_
 refine yr 6 ⟨L91 ++ L77 ++ [E56, E57, (153, .tup [.agg (Ad r78), vi r79])] ++ L107 ++ [E59, (160, .agg (Ad r78)), (161, vi r79)], [B3, B4, B6, B7, B58], H⟩ ?_
 exact ye
 refine Ah ?_
 refine ysg ⟨L83 ++ [E56, E57, (163, vb (r79 != 0))], [B3, B4, B6, B7, B58], H⟩ ?_
 rcases Af hF with ⟨h81, hF⟩ | ⟨h81, hF⟩
 refine yT h81 ⟨L73 ++ [E57], [B3, B4, B6, B7], H⟩ ?_
 refine Ah ?_
 obtain ⟨r82, c83, hF⟩ := Ab hF
 let B60 : EB := (6, (Ac r82))
 let E63 : EN := (166, .agg (Ac r82))
 refine Bn (.take 0 (.take 1 (.take 3 (.last 2 (.last 4 (.last 5 .done)))))) (by kernel_rfl) (⟨L71, [B60, B20], H⟩ : St) ?_ ?_
 refine ydk 3 ⟨L93 ++ [E62], [B3, B4, B6, B7], H⟩ ?_
 refine Bo ⟨L93 ++ [E63, E62], [B3, B4, B6, B7], H⟩ (yc (some 166) true false (⟨L93 ++ [E62], [B3, B4, B6, B7], H⟩ : St) (G8 H c83)) ?_
 refine ydl ⟨L93 ++ [E63, E62], [B3, B4, B60, B7], H⟩ ?_
 refine ydl ⟨L93 ++ [E63, E62], [B3, B4, B60, B20], H⟩ ?_
 exact yde
 refine As ?_
 obtain ⟨e0, e1⟩ := Ap hF
 subst e0
 subst e1
 exact yp (.tup [.agg (Ac r82), .agg (Ad p1)])
 refine yF h81 ⟨L83 ++ [E56], [B3, B4, B6, B7, B58], H⟩ ?_
 refine Am ?_
 refine yg ⟨L83, [B3, (4, (Ad r78)), B6, B7], H⟩ ?_
 exact ⟨((IntKind.wrap .u32 (p0.PC_ + 4)), p0, r78), hF, (by kernel_rfl)⟩
 refine yF h77 ⟨L106, [B3, B4, B5, B6, B7], H⟩ ?_
 refine ysg ⟨L106 ++ [(169, vb (p2.Op_ == 20))], [B3, B4, B5, B6, B7], H⟩ ?_
 refine Ar (α := (Int × T_ref04_Cpu)) (fun x => (⟨L73 ++ [(12, vu x.1)], [(3, (Ac x.2)), B4, B6, B7], H⟩ : St)) (fun x => Nu p1 x.1 x.2 = some (ra, rb)) ?_ ?_
 rintro ⟨j84, j85⟩ hF
 replace hF : Nu p1 j84 j85 = some (ra, rb) := hF
 unfold Nu at hF
 exact ⟨(j84, j85, p1), hF, (by kernel_rfl)⟩
 rcases Af hF with ⟨h86, hF⟩ | ⟨h86, hF⟩
 refine yT h86 ⟨L91 ++ L75, [B3, B4, B6, B7], H⟩ ?_
 refine ysg ⟨L73 ++ L75 ++ [(172, vb (v1 == 0))], [B3, B4, B6, B7], H⟩ ?_
 refine Ar (α := (Int)) (fun x => (⟨L73 ++ [(12, vu x)], [B3, B4, B6, B7], H⟩ : St)) (fun x => Nv p1 p0 x = some (ra, rb)) ?_ ?_
 rintro j87 hF
 replace hF : Nv p1 p0 j87 = some (ra, rb) := hF
 unfold Nv at hF
 exact ⟨(j87, p0), hF, (by kernel_rfl)⟩
 rcases Af hF with ⟨h88, hF⟩ | ⟨h88, hF⟩
 refine yT h88 ⟨L73 ++ [E64], [B3, B4, B6, B7], H⟩ ?_
 refine yg ⟨L95, [B3, B4, B6, B7], H⟩ ?_
 exact ⟨(IntKind.wrap .u32 ((IntKind.wrap .u32 (p0.PC_ + 4)) + (IntKind.wrap .u32 (4 * (IntKind.wrap .u32 p2.Imm_))))), hF, (by kernel_rfl)⟩
 refine yF h88 ⟨L83, [B3, B4, B6, B7], H⟩ ?_
 refine Am ?_
 exact ⟨(IntKind.wrap .u32 (p0.PC_ + 4)), hF, (by kernel_rfl)⟩
 refine yF h86 ⟨L106, [B3, B4, B5, B6, B7], H⟩ ?_
 refine ysg ⟨L106 ++ [(174, vb (p2.Op_ == 21))], [B3, B4, B5, B6, B7], H⟩ ?_
 refine Ar (α := (Int × T_ref04_Cpu)) (fun x => (⟨L73 ++ [(12, vu x.1)], [(3, (Ac x.2)), B4, B6, B7], H⟩ : St)) (fun x => Lv p1 x.1 x.2 = some (ra, rb)) ?_ ?_
 rintro ⟨j89, j90⟩ hF
 replace hF : Lv p1 j89 j90 = some (ra, rb) := hF
 unfold Lv at hF
 exact ⟨(j89, j90), hF, (by kernel_rfl)⟩
 rcases Af hF with ⟨h91, hF⟩ | ⟨h91, hF⟩
 refine yT h91 ⟨L91 ++ L75, [B3, B4, B6, B7], H⟩ ?_
 refine ysg ⟨L73 ++ L75 ++ [(177, vb (v1 != 0))], [B3, B4, B6, B7], H⟩ ?_
 refine Ar (α := (Int)) (fun x => (⟨L73 ++ [(12, vu x)], [B3, B4, B6, B7], H⟩ : St)) (fun x => Lw p1 p0 x = some (ra, rb)) ?_ ?_
 rintro j92 hF
 replace hF : Lw p1 p0 j92 = some (ra, rb) := hF
 unfold Lw at hF
 exact ⟨(j92, p0), hF, (by kernel_rfl)⟩
 rcases Af hF with ⟨h93, hF⟩ | ⟨h93, hF⟩
 refine yT h93 ⟨L73 ++ [E64], [B3, B4, B6, B7], H⟩ ?_
 refine yg ⟨L95, [B3, B4, B6, B7], H⟩ ?_
 exact ⟨(IntKind.wrap .u32 ((IntKind.wrap .u32 (p0.PC_ + 4)) + (IntKind.wrap .u32 (4 * (IntKind.wrap .u32 p2.Imm_))))), hF, (by kernel_rfl)⟩
 refine yF h93 ⟨L83, [B3, B4, B6, B7], H⟩ ?_
 refine Am ?_
 exact ⟨(IntKind.wrap .u32 (p0.PC_ + 4)), hF, (by kernel_rfl)⟩
 refine yF h91 ⟨L109, [B3, B4, B5, B6, B7], H⟩ ?_
 refine ysg ⟨L109 ++ [(179, vb (p2.Op_ == 22))], [B3, B4, B5, B6, B7], H⟩ ?_
 refine Ar (α := (T_ref04_Cpu)) (fun x => (⟨L95, [(3, (Ac x)), B4, B6, B7], H⟩ : St)) (fun x => Lx p1 p0 p2 x = some (ra, rb)) ?_ ?_
 rintro j94 hF
 replace hF : Lx p1 p0 p2 j94 = some (ra, rb) := hF
 unfold Lx at hF
 exact ⟨((IntKind.wrap .u32 ((IntKind.wrap .u32 (p0.PC_ + 4)) + (IntKind.wrap .u32 (4 * (IntKind.wrap .u32 p2.Imm_))))), j94), hF, (by kernel_rfl)⟩
 rcases Af hF with ⟨h95, hF⟩ | ⟨h95, hF⟩
 refine yT h95 ⟨L73 ++ [E64], [B3, B4, B6, B7], H⟩ ?_
 refine yg ⟨L95, [B3, B4, B6, B7], H⟩ ?_
 exact ⟨p0, hF, (by kernel_rfl)⟩
 refine yF h95 ⟨L109, [B3, B4, B5, B6, B7], H⟩ ?_
 refine ysg ⟨L74 ++ [E14, E64, (182, vb (p2.Op_ == 23))], [B3, B4, B5, B6, B7], H⟩ ?_
 rcases Af hF with ⟨h96, hF⟩ | ⟨h96, hF⟩
 refine yT h96 ⟨L73 ++ [E14, E64], [B3, B4, B6, B7], H⟩ ?_
 refine ysg ⟨L73 ++ [E64], [B65, B4, B6, B7], H⟩ ?_
 refine yg ⟨L95, [B65, B4, B6, B7], H⟩ ?_
 exact ⟨(T_ref04_Cpu.mk (Ho [(p0.R_.g 0), (p0.R_.g 1), (p0.R_.g 2), (p0.R_.g 3), (p0.R_.g 4), (p0.R_.g 5), (p0.R_.g 6), (p0.R_.g 7), (p0.R_.g 8), (p0.R_.g 9), (p0.R_.g 10), (p0.R_.g 11), (p0.R_.g 12), (p0.R_.g 13), (IntKind.wrap .u32 (p0.PC_ + 4)), (p0.R_.g 15)] : Arr 16 Int) p0.PC_ p0.EPC_ p0.Cause_ p0.State_ p0.Why_ p0.Steps_ p0.Taken_ p0.Out_ p0.Entry_ p0.Vector_ p0.Guard_ p0.Limit_ p0.Input_), hF, (by kernel_rfl)⟩
 refine yF h96 ⟨L74, [B3, B4, B5, B6, B7], H⟩ ?_
 refine Ah ?_
 obtain ⟨r97, c98, hF⟩ := Ab hF
 let B66 : EB := (6, (Ac r97))
 let E70 : EN := (81, .agg (Ac r97))
 refine Bn (.take 0 (.take 1 (.take 2 (.take 4 (.last 3 (.last 5 (.last 6 .done))))))) (by kernel_rfl) (⟨L71, [B66, B20], H⟩ : St) ?_ ?_
 refine ydk 4 ⟨L94 ++ [E69], [B3, B4, B5, B6, B7], H⟩ ?_
 refine Bo ⟨L94 ++ [E70, E69], [B3, B4, B5, B6, B7], H⟩ (yc (some 81) true false (⟨L94 ++ [E69], [B3, B4, B5, B6, B7], H⟩ : St) (Wh H c98)) ?_
 refine ydl ⟨L94 ++ [E70, E69], [B3, B4, B5, B66, B7], H⟩ ?_
 refine ydl ⟨L94 ++ [E70, E69], [B3, B4, B5, B66, B20], H⟩ ?_
 exact yde
 refine As ?_
 obtain ⟨e0, e1⟩ := Ap hF
 subst e0
 subst e1
 exact yp (.tup [.agg (Ac r97), .agg (Ad p1)])
noncomputable def Ge  (p0 : T_ref04_Cpu) (p1 : T_ref03_Mem) : Option (T_ref04_Cpu × T_ref03_Mem) :=
  if (p0.State_ != 0) = true then (some (p0, p1))
  else (Ch (F6 p1 p0.PC_) fun r2 r3 =>
  if (r3 != 0) = true then (Ag (F7 (T_ref04_Cpu.mk p0.R_ p0.PC_ p0.EPC_ p0.Cause_ p0.State_ p0.Why_ (IntKind.wrap .i64 (p0.Steps_ + 1)) p0.Taken_ p0.Out_ p0.Entry_ p0.Vector_ p0.Guard_ p0.Limit_ p0.Input_) r3) fun r6 =>
  some (r6, p1))
  else (Ch (F9 r2) fun r8 r9 =>
  if (r9 != 0) = true then (Ag (F7 (T_ref04_Cpu.mk p0.R_ p0.PC_ p0.EPC_ p0.Cause_ p0.State_ p0.Why_ (IntKind.wrap .i64 (p0.Steps_ + 1)) p0.Taken_ p0.Out_ p0.Entry_ p0.Vector_ p0.Guard_ p0.Limit_ p0.Input_) r9) fun r12 =>
  some (r12, p1))
  else (Ch (Cg (T_ref04_Cpu.mk p0.R_ p0.PC_ p0.EPC_ p0.Cause_ p0.State_ p0.Why_ (IntKind.wrap .i64 (p0.Steps_ + 1)) p0.Taken_ p0.Out_ p0.Entry_ p0.Vector_ p0.Guard_ p0.Limit_ p0.Input_) p1 r8) fun r14 r15 =>
  some (r14, r15))))
theorem Zq (H : Ai) {p0 : T_ref04_Cpu} {p1 : T_ref03_Mem} {ra : T_ref04_Cpu} {rb : T_ref03_Mem} (hF : Ge p0 p1 = some (ra, rb)) : evS X 58 [.agg (Ac p0), .agg (Ad p1)] H = some (.tup [.agg (Ac ra), .agg (Ad rb)], H) := by
 let B1 : EB := (2, (Ac p0))
 let B2 : EB := (3, (Ad p1))
 let B3 : EB := (4, (List.replicate 19 (.top, .int .u32 0) ++ List.replicate 4 (.top, .int .i64 0) ++ [((.own 1), .sl 2 (List.map Ae ([] : List T_api_Event)))] ++ List.replicate 4 (.top, .int .u32 0) ++ [((.own 1), .sl 1 (List.map (eI .i32) ([] : List Int)))]))
 let B4 : EB := (5, (List.replicate 5 (.top, .int .u32 0) ++ [((.own 1), .sl 1 (List.map (eI .u32) ([] : List Int)))]))
 let B5 : EB := (4, (Ac p0))
 let B6 : EB := (5, (Ad p1))
 let E7 : EN := (12, .agg (Ac p0))
 let E8 : EN := (13, .agg (Ad p1))
 let B9 : EB := (2, (arM .u32 16 p0.R_ ++ [(.top, .int .u32 p0.PC_), (.top, .int .u32 p0.EPC_), (.top, .int .u32 p0.Cause_), (.top, .int .i64 p0.State_), (.top, .int .i64 p0.Why_), (.top, .int .i64 (IntKind.wrap .i64 (p0.Steps_ + 1))), (.top, .int .i64 p0.Taken_), ((.own 0), .sl 2 (List.map Ae p0.Out_)), (.top, .int .u32 p0.Entry_), (.top, .int .u32 p0.Vector_), (.top, .int .u32 p0.Guard_), (.top, .int .u32 p0.Limit_), ((.own 0), .sl 1 (List.map (eI .i32) p0.Input_))]))
 let E13 : EN := (27, .agg (arM .u32 16 p0.R_ ++ [(.top, .int .u32 p0.PC_), (.top, .int .u32 p0.EPC_), (.top, .int .u32 p0.Cause_), (.top, .int .i64 p0.State_), (.top, .int .i64 p0.Why_), (.top, .int .i64 (IntKind.wrap .i64 (p0.Steps_ + 1))), (.top, .int .i64 p0.Taken_), ((.own 0), .sl 2 (List.map Ae p0.Out_)), (.top, .int .u32 p0.Entry_), (.top, .int .u32 p0.Vector_), (.top, .int .u32 p0.Guard_), (.top, .int .u32 p0.Limit_), ((.own 0), .sl 1 (List.map (eI .i32) p0.Input_))]))
 let E14 : EN := (30, .agg (Ad p1))
 let E16 : EN := (8, vl 8 0)
 let E21 : EN := (38, .agg (arM .u32 16 p0.R_ ++ [(.top, .int .u32 p0.PC_), (.top, .int .u32 p0.EPC_), (.top, .int .u32 p0.Cause_), (.top, .int .i64 p0.State_), (.top, .int .i64 p0.Why_), (.top, .int .i64 (IntKind.wrap .i64 (p0.Steps_ + 1))), (.top, .int .i64 p0.Taken_), ((.own 0), .sl 2 (List.map Ae p0.Out_)), (.top, .int .u32 p0.Entry_), (.top, .int .u32 p0.Vector_), (.top, .int .u32 p0.Guard_), (.top, .int .u32 p0.Limit_), ((.own 0), .sl 1 (List.map (eI .i32) p0.Input_))]))
 let E22 : EN := (41, .agg (Ad p1))
 let L25 : List EN := [(4, vl 4 0), (5, vl 5 0)]
 let L26 : List EN := [(2, vl 2 0), (3, vl 3 0)] ++ L25
 let L31 : List EN := [(19, .agg (Ad p1)), (20, vl 2 16), (21, vu p0.PC_)]
 refine yf Try.func58 true ⟨[(0, .agg (Ac p0)), (1, .agg (Ad p1))], [], H⟩ ?_
 unfold Ge at hF
 refine ysg ⟨L26, [B1, B2, B3, B4], H⟩ ?_
 refine Ah ?_
 refine ysg ⟨L26 ++ [(11, vb (p0.State_ != 0))], [B1, B2, B3, B4], H⟩ ?_
 rcases Af hF with ⟨h1, hF⟩ | ⟨h1, hF⟩
 refine yT h1 ⟨L26, [B1, B2, B3, B4], H⟩ ?_
 refine Ah ?_
 refine Bn (.take 0 (.take 1 (.last 2 (.last 3 .done)))) (by kernel_rfl) (⟨L25, [B5, B6], H⟩ : St) ?_ ?_
 refine ydk 2 ⟨L26 ++ [E7, E8], [B1, B2, B3, B4], H⟩ ?_
 refine ydl ⟨L26 ++ [E7, E8], [B1, B2, B5, B4], H⟩ ?_
 refine ydl ⟨L26 ++ [E7, E8], [B1, B2, B5, B6], H⟩ ?_
 exact yde
 refine As ?_
 obtain ⟨e0, e1⟩ := Ap hF
 subst e0
 subst e1
 exact yp (.tup [.agg (Ac p0), .agg (Ad p1)])
 refine yF h1 ⟨L26, [B1, B2, B3, B4], H⟩ ?_
 refine Am ?_
 refine ysg ⟨L26, [B9, B2, B3, B4], H⟩ ?_
 refine Ah ?_
 obtain ⟨r2, r3, c4, hF⟩ := Bg hF
 let E10 : EN := (7, vi r3)
 let E11 : EN := (22, .tup [vu r2, vi r3])
 let E18 : EN := (32, vu r2)
 let L28 : List EN := L26 ++ [(6, vu r2)]
 let L30 : List EN := L26 ++ [E10, E13, (28, vi r3)]
 refine Ak ⟨L28 ++ [E10], [B9, B2, B3, B4], H⟩ ?_ ?_
 refine yr 3 ⟨L26 ++ L31, [B9, B2, B3, B4], H⟩ ?_
 refine Aj ⟨L26 ++ L31 ++ [E11], [B9, B2, B3, B4], H⟩ (yc (some 22) true false (⟨L26 ++ L31, [B9, B2, B3, B4], H⟩ : St) (Y6 H c4)) ?_
 refine yr 5 ⟨L28 ++ [E10, (18, .tup [vu r2, vi r3])] ++ L31 ++ [E11, (23, vu r2), (24, vi r3)], [B9, B2, B3, B4], H⟩ ?_
 exact ye
 refine Ah ?_
 refine ysg ⟨L28 ++ [E10, (26, vb (r3 != 0))], [B9, B2, B3, B4], H⟩ ?_
 rcases Af hF with ⟨h5, hF⟩ | ⟨h5, hF⟩
 refine yT h5 ⟨L26 ++ [E10], [B9, B2, B3, B4], H⟩ ?_
 refine Ah ?_
 obtain ⟨r6, c7, hF⟩ := Ab hF
 let B12 : EB := (4, (Ac r6))
 let E15 : EN := (29, .agg (Ac r6))
 refine Bn (.take 0 (.take 1 (.take 3 (.last 2 (.last 4 (.last 5 .done)))))) (by kernel_rfl) (⟨L25, [B12, B6], H⟩ : St) ?_ ?_
 refine ydk 3 ⟨L30 ++ [E14], [B9, B2, B3, B4], H⟩ ?_
 refine Bo ⟨L30 ++ [E15, E14], [B9, B2, B3, B4], H⟩ (yc (some 29) true false (⟨L30 ++ [E14], [B9, B2, B3, B4], H⟩ : St) (G8 H c7)) ?_
 refine ydl ⟨L30 ++ [E15, E14], [B9, B2, B12, B4], H⟩ ?_
 refine ydl ⟨L30 ++ [E15, E14], [B9, B2, B12, B6], H⟩ ?_
 exact yde
 refine As ?_
 obtain ⟨e0, e1⟩ := Ap hF
 subst e0
 subst e1
 exact yp (.tup [.agg (Ac r6), .agg (Ad p1)])
 refine yF h5 ⟨L28, [B9, B2, B3, B4], H⟩ ?_
 refine Am ?_
 refine Ah ?_
 obtain ⟨r8, r9, c10, hF⟩ := Bg hF
 let B17 : EB := (8, (Ay r8))
 let E19 : EN := (33, .tup [.agg (Ay r8), vi r9])
 let L27 : List EN := L26 ++ [(7, vi r9)]
 let L29 : List EN := L27 ++ [E21, (39, vi r9)]
 let L32 : List EN := L26 ++ [E16, (42, .agg (arM .u32 16 p0.R_ ++ [(.top, .int .u32 p0.PC_), (.top, .int .u32 p0.EPC_), (.top, .int .u32 p0.Cause_), (.top, .int .i64 p0.State_), (.top, .int .i64 p0.Why_), (.top, .int .i64 (IntKind.wrap .i64 (p0.Steps_ + 1))), (.top, .int .i64 p0.Taken_), ((.own 0), .sl 2 (List.map Ae p0.Out_)), (.top, .int .u32 p0.Entry_), (.top, .int .u32 p0.Vector_), (.top, .int .u32 p0.Guard_), (.top, .int .u32 p0.Limit_), ((.own 0), .sl 1 (List.map (eI .i32) p0.Input_))])), (43, .agg (Ad p1)), (44, .agg (Ay r8))]
 refine Ak ⟨L27 ++ [E16], [B9, B2, B3, B4, B17], H⟩ ?_ ?_
 refine yr 1 ⟨L28 ++ [E18], [B9, B2, B3, B4], H⟩ ?_
 refine Aj ⟨L28 ++ [E18, E19], [B9, B2, B3, B4], H⟩ (yc (some 33) true false (⟨L28 ++ [E18], [B9, B2, B3, B4], H⟩ : St) (We H c10)) ?_
 refine yr 6 ⟨L28 ++ [(7, vi r9), E16, (31, .tup [.agg (Ay r8), vi r9]), E18, E19, (34, .agg (Ay r8)), (35, vi r9)], [B9, B2, B3, B4, B17], H⟩ ?_
 exact ye
 refine Ah ?_
 refine ysg ⟨L27 ++ [E16, (37, vb (r9 != 0))], [B9, B2, B3, B4, B17], H⟩ ?_
 rcases Af hF with ⟨h11, hF⟩ | ⟨h11, hF⟩
 refine yT h11 ⟨L27, [B9, B2, B3, B4], H⟩ ?_
 refine Ah ?_
 obtain ⟨r12, c13, hF⟩ := Ab hF
 let B20 : EB := (4, (Ac r12))
 let E23 : EN := (40, .agg (Ac r12))
 refine Bn (.take 0 (.take 1 (.take 3 (.last 2 (.last 4 (.last 5 .done)))))) (by kernel_rfl) (⟨L25, [B20, B6], H⟩ : St) ?_ ?_
 refine ydk 3 ⟨L29 ++ [E22], [B9, B2, B3, B4], H⟩ ?_
 refine Bo ⟨L29 ++ [E23, E22], [B9, B2, B3, B4], H⟩ (yc (some 40) true false (⟨L29 ++ [E22], [B9, B2, B3, B4], H⟩ : St) (G8 H c13)) ?_
 refine ydl ⟨L29 ++ [E23, E22], [B9, B2, B20, B4], H⟩ ?_
 refine ydl ⟨L29 ++ [E23, E22], [B9, B2, B20, B6], H⟩ ?_
 exact yde
 refine As ?_
 obtain ⟨e0, e1⟩ := Ap hF
 subst e0
 subst e1
 exact yp (.tup [.agg (Ac r12), .agg (Ad p1)])
 refine yF h11 ⟨L26 ++ [E16], [B9, B2, B3, B4, B17], H⟩ ?_
 refine Am ?_
 refine Ah ?_
 obtain ⟨r14, r15, c16, hF⟩ := Bg hF
 let E24 : EN := (45, .tup [.agg (Ac r14), .agg (Ad r15)])
 refine Ak ⟨L25, [(4, (Ac r14)), (5, (Ad r15))], H⟩ ?_ ?_
 refine yr 3 ⟨L32, [B9, B2, B3, B4, B17], H⟩ ?_
 refine Aj ⟨L32 ++ [E24], [B9, B2, B3, B4, B17], H⟩ (yc (some 45) true false (⟨L32, [B9, B2, B3, B4, B17], H⟩ : St) (dW H c16)) ?_
 refine yr 4 ⟨L32 ++ [E24, (46, .agg (Ac r14)), (47, .agg (Ad r15))], [B9, B2, (4, (Ac r14)), (5, (Ad r15)), B17], H⟩ ?_
 exact ye
 refine As ?_
 obtain ⟨e0, e1⟩ := Ap hF
 subst e0
 subst e1
 exact yp (.tup [.agg (Ac r14), .agg (Ad r15)])
noncomputable def Gf (p1 : T_ref04_Cpu) (x4 : T_cpu_Cpu) (a15 : Int) : Option ((Int) ⊕ (Unit ⊕ Unit)) :=
  if (decide (a15 < (p1.Out_.length : Int))) = true then (Ag (gi x4.Out_ a15) fun x17 =>
  Ag (gi p1.Out_ a15) fun x19 =>
  if (!(Qp x17 x19)) = true then (some (Sum.inr (Sum.inr ())))
  else (some (Sum.inl (IntKind.wrap .i64 (a15 + 1)))))
  else (some (Sum.inr (Sum.inl ())))
noncomputable def Oy (H : Ai) (p0 : Ptr) (p1 : T_ref04_Cpu) : Option (Bool) :=
  (p0).bnd fun i1 o2 =>
  Ag (Ba H i1 o2) fun x4 =>
  if ((!(Bu x4.R_ p1.R_)) || ((x4.PC_ != p1.PC_) || ((x4.EPC_ != p1.EPC_) || ((x4.Cause_ != p1.Cause_) || ((x4.State_ != p1.State_) || ((x4.Why_ != p1.Why_) || ((x4.Steps_ != p1.Steps_) || ((x4.Taken_ != p1.Taken_) || ((x4.Out_.length : Int) != (p1.Out_.length : Int)))))))))) = true then (some false)
  else (Ag (Gg (fun (x : (Int)) => Gf p1 x4 x) 0) (dO (fun (_ : Unit) =>
  some true) (fun (_ : Unit) =>
  some false)))
theorem Zr (H : Ai) {p0 : Ptr} {p1 : T_ref04_Cpu} {ra : Bool} (hF : Oy H p0 p1 = some ra) : evS X 60 [.one .top (Ptr.av p0), .agg (Ac p1)] H = some (.one .top (.bool ra), H) := by
 let E1 : EN := (3, vl 3 0)
 let B2 : EB := (3, (Ac p1))
 let E5 : EN := (39, vT)
 let E6 : EN := (57, vT)
 let E7 : EN := (66, vT)
 let E32 : EN := (84, vi (p1.Out_.length : Int))
 let E35 : EN := (90, vi (p1.Out_.length : Int))
 let E40 : EN := (101, vl 3 23)
 let E41 : EN := (102, .one (.own 0) (.sl 2 (List.map Ae p1.Out_)))
 let L56 : List EN := [(48, vT), (49, vT)]
 let L57 : List EN := L56 ++ [(50, vN)]
 let L58 : List EN := [E5, (40, vT), (41, vN)]
 let L59 : List EN := L57 ++ [(51, vN)]
 let L60 : List EN := L58 ++ [(42, vN), (43, vN)]
 let L61 : List EN := L59 ++ [(52, vN)]
 let L62 : List EN := [E6, (58, vT)]
 let L63 : List EN := L61 ++ [(53, vN)]
 let L64 : List EN := L62 ++ [(59, vN)]
 let L65 : List EN := L60 ++ [(44, vN), (45, vN)]
 let L66 : List EN := L63 ++ [(54, vN)]
 let L67 : List EN := [(30, vT), (31, vT), (32, vN)]
 let L68 : List EN := L64 ++ [(60, vN)]
 let L69 : List EN := L66 ++ [(55, vN)]
 let L70 : List EN := L65 ++ [(46, vN), (47, vN)]
 let L71 : List EN := L67 ++ [(33, vN), (34, vN)]
 let L72 : List EN := L68 ++ [(61, vN)]
 let L74 : List EN := L71 ++ [(35, vN), (36, vN)]
 let L76 : List EN := L72 ++ [(62, vN)]
 let L77 : List EN := L74 ++ [(37, vN)]
 let L79 : List EN := L76 ++ [(63, vN)]
 let L80 : List EN := [E7, (67, vT)]
 let L81 : List EN := L79 ++ [(64, vN)]
 let L82 : List EN := L80 ++ [(68, vN)]
 let L83 : List EN := L81 ++ [(65, vN)]
 let L84 : List EN := [(21, vT), (22, vT), (23, vN)]
 let L85 : List EN := L82 ++ [(69, vN)]
 let L86 : List EN := L70 ++ L69 ++ [(56, vN)]
 let L87 : List EN := L84 ++ [(24, vN), (25, vN)]
 let L88 : List EN := L87 ++ [(26, vN), (27, vN)]
 let L89 : List EN := L85 ++ [(70, vN)]
 let L90 : List EN := L88 ++ [(28, vN), (29, vN)]
 let L91 : List EN := L89 ++ [(71, vN)]
 let L93 : List EN := L91 ++ [(72, vN)]
 let L96 : List EN := L93 ++ [(73, vN)]
 let L97 : List EN := L96 ++ [(74, vN)]
 let L98 : List EN := [(75, vT), (76, vT), (77, vN)]
 let L106 : List EN := L97 ++ L98 ++ [(78, vN), (79, vN)]
 let L110 : List EN := L106 ++ [(80, vN)]
 let L113 : List EN := L110 ++ [(81, vN)]
 let L115 : List EN := L113 ++ [(82, vN)]
 let L121 : List EN := L115 ++ [(83, vN)]
 let L129 : List EN := L121 ++ [(84, vN)]
 let L132 : List EN := L129 ++ [(85, vN)]
 let L147 : List EN := L97 ++ [(75, vT)]
 let L148 : List EN := L97 ++ [(75, vT), (76, vT)]
 let L149 : List EN := L97 ++ L98 ++ [(78, vN)]
 let L150 : List EN := L132 ++ [(86, vT)]
 let S156 : St := ⟨[], [], H⟩
 let S157 : St := ⟨[(4, vF)], [], H⟩
 refine yf Try.func60 true ⟨[(0, vp p0), (1, .agg (Ac p1))], [], H⟩ ?_
 unfold Oy at hF
 refine ysg ⟨[(0, vp p0), E1], [B2], H⟩ ?_ (h := (by generalize p0 = qp0; cases qp0 <;> kernel_rfl))
 refine Ah ?_
 refine Ah ?_
 obtain ⟨i1, o2, h3, hF⟩ := Br hF
 let E29 : EN := (78, vo i1 o2)
 let E30 : EN := (79, vo i1 (o2 + 23))
 let E37 : EN := (94, vo i1 o2)
 let L44 : List EN := [(0, vo i1 o2), E1]
 let L45 : List EN := L44 ++ [(6, vo i1 o2), (7, vo i1 o2), (8, vo i1 o2)]
 obtain ⟨x4, V5, hF⟩ := Ab hF
 replace V5 := A8 V5
 let E3 : EN := (9, .agg (arM .u32 16 x4.R_))
 let E4 : EN := (12, vb (!(Bu x4.R_ p1.R_)))
 let E8 : EN := (17, vu x4.PC_)
 let E9 : EN := (20, vb (x4.PC_ != p1.PC_))
 let E10 : EN := (21, vb (x4.PC_ != p1.PC_))
 let E11 : EN := (26, vu x4.EPC_)
 let E12 : EN := (29, vb (x4.EPC_ != p1.EPC_))
 let E13 : EN := (30, vb (x4.EPC_ != p1.EPC_))
 let E14 : EN := (35, vu x4.Cause_)
 let E15 : EN := (38, vb (x4.Cause_ != p1.Cause_))
 let E16 : EN := (39, vb (x4.Cause_ != p1.Cause_))
 let E17 : EN := (44, vi x4.State_)
 let E18 : EN := (47, vb (x4.State_ != p1.State_))
 let E19 : EN := (48, vb (x4.State_ != p1.State_))
 let E20 : EN := (53, vi x4.Why_)
 let E21 : EN := (56, vb (x4.Why_ != p1.Why_))
 let E22 : EN := (57, vb (x4.Why_ != p1.Why_))
 let E23 : EN := (62, vi x4.Steps_)
 let E24 : EN := (65, vb (x4.Steps_ != p1.Steps_))
 let E25 : EN := (66, vb (x4.Steps_ != p1.Steps_))
 let E26 : EN := (71, vi x4.Taken_)
 let E27 : EN := (74, vb (x4.Taken_ != p1.Taken_))
 let E28 : EN := (75, vb (x4.Taken_ != p1.Taken_))
 let E31 : EN := (81, vi (x4.Out_.length : Int))
 let E33 : EN := (85, vb ((x4.Out_.length : Int) != (p1.Out_.length : Int)))
 let E38 : EN := (97, .one .bh (.sl 2 (List.map Ae x4.Out_)))
 let L46 : List EN := L45 ++ [E3, (10, vl 3 0), (11, .agg (arM .u32 16 p1.R_))]
 let L47 : List EN := L46 ++ [(12, vF), (13, vF), (14, vo i1 o2)]
 let L48 : List EN := L47 ++ [(15, vo i1 o2), (16, vo i1 (o2 + 16))]
 let L49 : List EN := L48 ++ [E8, (18, vl 3 16), (19, vu p1.PC_)]
 let L50 : List EN := L49 ++ [(20, vF), (21, vF), (22, vF), (23, vo i1 o2)]
 let L51 : List EN := L50 ++ [(24, vo i1 o2), (25, vo i1 (o2 + 17))]
 let L52 : List EN := L51 ++ [E11, (27, vl 3 17), (28, vu p1.EPC_)]
 let L53 : List EN := L52 ++ [(29, vF), (30, vF), (31, vF), (32, vo i1 o2)]
 let L54 : List EN := L53 ++ [(33, vo i1 o2), (34, vo i1 (o2 + 18))]
 let L55 : List EN := L54 ++ [E14, (36, vl 3 18), (37, vu p1.Cause_)]
 let L73 : List EN := L55 ++ [(38, vF), (39, vF), (40, vF), (41, vo i1 o2)]
 let L75 : List EN := L73 ++ [(42, vo i1 o2), (43, vo i1 (o2 + 19))]
 let L78 : List EN := L75 ++ [E17, (45, vl 3 19), (46, vi p1.State_)]
 let L92 : List EN := L78 ++ [(47, vF), (48, vF), (49, vF), (50, vo i1 o2)]
 let L94 : List EN := L92 ++ [(51, vo i1 o2), (52, vo i1 (o2 + 20))]
 let L95 : List EN := L94 ++ [E20, (54, vl 3 20), (55, vi p1.Why_)]
 let L99 : List EN := L46 ++ [(12, vT), (13, vT), (14, vN)]
 let L100 : List EN := L99 ++ [(15, vN), (16, vN), (17, vN), (18, vN)]
 let L101 : List EN := L100 ++ [(19, vN), (20, vN)]
 let L102 : List EN := L95 ++ [(56, vF), (57, vF), (58, vF), (59, vo i1 o2)]
 let L103 : List EN := L49 ++ [(20, vT)]
 let L104 : List EN := L102 ++ [(60, vo i1 o2), (61, vo i1 (o2 + 21))]
 let L105 : List EN := L104 ++ [E23, (63, vl 3 21), (64, vi p1.Steps_)]
 let L107 : List EN := L52 ++ [(29, vT)]
 let L108 : List EN := L101 ++ L90 ++ L77 ++ [(38, vN)]
 let L109 : List EN := L103 ++ L90 ++ L77 ++ [(38, vN)]
 let L111 : List EN := L107 ++ L77 ++ [(38, vN)]
 let L112 : List EN := L55 ++ [(38, vT)]
 let L114 : List EN := L78 ++ [(47, vT)]
 let L116 : List EN := L105 ++ [(65, vF), (66, vF), (67, vF), (68, vo i1 o2)]
 let L117 : List EN := L116 ++ [(69, vo i1 o2), (70, vo i1 (o2 + 22))]
 let L118 : List EN := L114 ++ L69 ++ [(56, vN)]
 let L119 : List EN := L117 ++ [E26, (72, vl 3 22), (73, vi p1.Taken_)]
 let L120 : List EN := L95 ++ [(56, vT)]
 let L123 : List EN := L108 ++ L86 ++ L83
 let L124 : List EN := L109 ++ L86 ++ L83
 let L125 : List EN := L111 ++ L86 ++ L83
 let L126 : List EN := L112 ++ L86 ++ L83
 let L127 : List EN := L118 ++ L83
 let L128 : List EN := L120 ++ L83
 let L130 : List EN := L105 ++ [(65, vT)]
 let L133 : List EN := L119 ++ [(74, vF), (75, vF), (76, vF), (77, vo i1 o2)]
 let L135 : List EN := L101 ++ L90
 let L136 : List EN := L103 ++ L90
 let L137 : List EN := L108 ++ L70
 let L138 : List EN := L108 ++ L86
 let L139 : List EN := L109 ++ L70
 let L140 : List EN := L109 ++ L86
 let L141 : List EN := L111 ++ L70
 let L142 : List EN := L111 ++ L86
 let L143 : List EN := L112 ++ L70
 let L144 : List EN := L112 ++ L86
 let L145 : List EN := L133 ++ [E29, E30, (80, .one .bh (.sl 2 (List.map Ae x4.Out_)))]
 let L151 : List EN := L119 ++ [(74, vT)] ++ L98 ++ [(78, vN), (79, vN), (80, vN)]
 let L153 : List EN := L145 ++ [E31, (82, vl 3 23), (83, .one (.own 0) (.sl 2 (List.map Ae p1.Out_)))]
 let L155 : List EN := L151 ++ [(81, vN), (82, vN), (83, vN), (84, vN)]
 refine Bn (.take 0 (.take 1 (.take 2 (.take 3 (.take 4 (.take 5 (.take 6 (.take 7 (.take 8 (.take 9 (.take 10 (.take 11 (.take 12 (.take 13 (.take 14 (.take 15 (.take 16 (.take 17 (.take 18 (.take 19 (.take 20 (.take 21 (.take 22 (.take 23 (.take 24 (.take 25 (.take 26 (.take 27 (.take 28 (.take 29 (.take 30 (.take 31 (.take 32 (.take 33 (.take 34 (.take 35 (.take 36 (.take 37 (.take 38 (.take 39 (.take 40 (.take 41 (.take 42 (.take 43 (.take 44 (.take 45 (.take 46 (.take 47 (.take 48 (.take 49 (.take 50 (.take 51 (.take 52 (.take 53 (.take 54 (.take 55 (.take 56 (.take 57 (.take 58 (.take 59 (.take 60 (.take 61 (.take 62 (.take 63 (.take 64 (.take 65 (.take 66 (.take 67 (.take 68 (.take 69 (.take 70 (.take 71 (.take 72 (.take 73 (.take 74 (.take 75 (.take 76 (.take 77 (.take 78 (.take 79 (.take 80 .done))))))))))))))))))))))))))))))))))))))))))))))))))))))))))))))))))))))))))))))))) (by kernel_rfl) (⟨L44 ++ [(86, vb ((!(Bu x4.R_ p1.R_)) || ((x4.PC_ != p1.PC_) || ((x4.EPC_ != p1.EPC_) || ((x4.Cause_ != p1.Cause_) || ((x4.State_ != p1.State_) || ((x4.Why_ != p1.Why_) || ((x4.Steps_ != p1.Steps_) || ((x4.Taken_ != p1.Taken_) || ((x4.Out_.length : Int) != (p1.Out_.length : Int)))))))))))], [B2], H⟩ : St) ?_ ?_
 refine Ao ⟨[(0, vp p0), E1, (6, vp p0)], [B2], H⟩ (by generalize p0 = qp0; cases qp0 <;> kernel_rfl) ?_
 refine Fe (congrArg (fun q => (⟨[(0, vp q), E1, (6, vp q)], [B2], H⟩ : St)) h3) ?_
 refine ydk 2 ⟨L45, [B2], H⟩ ?_
 refine Ao ⟨L45 ++ [E3], [B2], H⟩ (yd (X := X) (⟨L45, [B2], H⟩ : St) 46 V5 0 16 true (.agg (arM .u32 16 x4.R_)) (some 9)) ?_
 refine ydk 2 ⟨L46, [B2], H⟩ ?_
 refine Ao ⟨L46 ++ [E4], [B2], H⟩ (Qk (⟨L46, [B2], H⟩ : St) (Wt (P := X.P) (ty := 46) (x := (.tmp 9)) (y := (.tmp 11)) (cs := (arM .u32 16 x4.R_)) (ds := (arM .u32 16 p1.R_)) (us := [.int .u32 (x4.R_.g 0), .int .u32 (x4.R_.g 1), .int .u32 (x4.R_.g 2), .int .u32 (x4.R_.g 3), .int .u32 (x4.R_.g 4), .int .u32 (x4.R_.g 5), .int .u32 (x4.R_.g 6), .int .u32 (x4.R_.g 7), .int .u32 (x4.R_.g 8), .int .u32 (x4.R_.g 9), .int .u32 (x4.R_.g 10), .int .u32 (x4.R_.g 11), .int .u32 (x4.R_.g 12), .int .u32 (x4.R_.g 13), .int .u32 (x4.R_.g 14), .int .u32 (x4.R_.g 15)]) (vs := [.int .u32 (p1.R_.g 0), .int .u32 (p1.R_.g 1), .int .u32 (p1.R_.g 2), .int .u32 (p1.R_.g 3), .int .u32 (p1.R_.g 4), .int .u32 (p1.R_.g 5), .int .u32 (p1.R_.g 6), .int .u32 (p1.R_.g 7), .int .u32 (p1.R_.g 8), .int .u32 (p1.R_.g 9), .int .u32 (p1.R_.g 10), .int .u32 (p1.R_.g 11), .int .u32 (p1.R_.g 12), .int .u32 (p1.R_.g 13), .int .u32 (p1.R_.g 14), .int .u32 (p1.R_.g 15)]) (qs := [(x4.R_.g 0) == (p1.R_.g 0), (x4.R_.g 1) == (p1.R_.g 1), (x4.R_.g 2) == (p1.R_.g 2), (x4.R_.g 3) == (p1.R_.g 3), (x4.R_.g 4) == (p1.R_.g 4), (x4.R_.g 5) == (p1.R_.g 5), (x4.R_.g 6) == (p1.R_.g 6), (x4.R_.g 7) == (p1.R_.g 7), (x4.R_.g 8) == (p1.R_.g 8), (x4.R_.g 9) == (p1.R_.g 9), (x4.R_.g 10) == (p1.R_.g 10), (x4.R_.g 11) == (p1.R_.g 11), (x4.R_.g 12) == (p1.R_.g 12), (x4.R_.g 13) == (p1.R_.g 13), (x4.R_.g 14) == (p1.R_.g 14), (x4.R_.g 15) == (p1.R_.g 15)]) (by kernel_rfl) (by kernel_rfl) (by kernel_rfl) (by kernel_rfl)) rfl (some 12) (by kernel_rfl) (by kernel_rfl)) ?_
 refine ydt ⟨L46 ++ [E4, (13, vb (!(Bu x4.R_ p1.R_)))], [B2], H⟩ ?_
 rcases Aw (!(Bu x4.R_ p1.R_)) with h6 | h6
 refine Fe (congrArg (fun q => (⟨L46 ++ [(12, vb q), (13, vb q)], [B2], H⟩ : St)) h6) ?_
 refine ydk 73 ⟨L123 ++ L150, [B2], H⟩ ?_
 refine Uf (congrArg (fun q0 => (⟨L44 ++ [(86, vb q0)], [B2], H⟩ : St)) (show true = ((!(Bu x4.R_ p1.R_)) || ((x4.PC_ != p1.PC_) || ((x4.EPC_ != p1.EPC_) || ((x4.Cause_ != p1.Cause_) || ((x4.State_ != p1.State_) || ((x4.Why_ != p1.Why_) || ((x4.Steps_ != p1.Steps_) || ((x4.Taken_ != p1.Taken_) || ((x4.Out_.length : Int) != (p1.Out_.length : Int)))))))))) by simp [h6])) ?_
 exact yde
 refine Fe (congrArg (fun q => (⟨L46 ++ [(12, vb q), (13, vb q)], [B2], H⟩ : St)) h6) ?_
 refine ydk 3 ⟨L48, [B2], H⟩ ?_
 refine Ao ⟨L48 ++ [E8], [B2], H⟩ (yd (X := X) (⟨L48, [B2], H⟩ : St) 35 V5 16 1 false (vu x4.PC_) (some 17)) ?_
 refine ydk 5 ⟨L49 ++ [E9, E10, (22, vb (x4.PC_ != p1.PC_))], [B2], H⟩ ?_
 rcases Aw (x4.PC_ != p1.PC_) with h7 | h7
 refine Fe (congrArg (fun q => (⟨L49 ++ [(20, vb q), (21, vb q), (22, vb q)], [B2], H⟩ : St)) h7) ?_
 refine ydk 64 ⟨L124 ++ L150, [B2], H⟩ ?_
 refine Uf (congrArg (fun q0 => (⟨L44 ++ [(86, vb q0)], [B2], H⟩ : St)) (show true = ((!(Bu x4.R_ p1.R_)) || ((x4.PC_ != p1.PC_) || ((x4.EPC_ != p1.EPC_) || ((x4.Cause_ != p1.Cause_) || ((x4.State_ != p1.State_) || ((x4.Why_ != p1.Why_) || ((x4.Steps_ != p1.Steps_) || ((x4.Taken_ != p1.Taken_) || ((x4.Out_.length : Int) != (p1.Out_.length : Int)))))))))) by simp [h6, h7])) ?_
 exact yde
 refine Fe (congrArg (fun q => (⟨L49 ++ [(20, vb q), (21, vb q), (22, vb q)], [B2], H⟩ : St)) h7) ?_
 refine ydk 3 ⟨L51, [B2], H⟩ ?_
 refine Ao ⟨L51 ++ [E11], [B2], H⟩ (yd (X := X) (⟨L51, [B2], H⟩ : St) 35 V5 17 1 false (vu x4.EPC_) (some 26)) ?_
 refine ydk 5 ⟨L52 ++ [E12, E13, (31, vb (x4.EPC_ != p1.EPC_))], [B2], H⟩ ?_
 rcases Aw (x4.EPC_ != p1.EPC_) with h8 | h8
 refine Fe (congrArg (fun q => (⟨L52 ++ [(29, vb q), (30, vb q), (31, vb q)], [B2], H⟩ : St)) h8) ?_
 refine ydk 55 ⟨L125 ++ L150, [B2], H⟩ ?_
 refine Uf (congrArg (fun q0 => (⟨L44 ++ [(86, vb q0)], [B2], H⟩ : St)) (show true = ((!(Bu x4.R_ p1.R_)) || ((x4.PC_ != p1.PC_) || ((x4.EPC_ != p1.EPC_) || ((x4.Cause_ != p1.Cause_) || ((x4.State_ != p1.State_) || ((x4.Why_ != p1.Why_) || ((x4.Steps_ != p1.Steps_) || ((x4.Taken_ != p1.Taken_) || ((x4.Out_.length : Int) != (p1.Out_.length : Int)))))))))) by simp [h6, h7, h8])) ?_
 exact yde
 refine Fe (congrArg (fun q => (⟨L52 ++ [(29, vb q), (30, vb q), (31, vb q)], [B2], H⟩ : St)) h8) ?_
 refine ydk 3 ⟨L54, [B2], H⟩ ?_
 refine Ao ⟨L54 ++ [E14], [B2], H⟩ (yd (X := X) (⟨L54, [B2], H⟩ : St) 35 V5 18 1 false (vu x4.Cause_) (some 35)) ?_
 refine ydk 5 ⟨L55 ++ [E15, E16, (40, vb (x4.Cause_ != p1.Cause_))], [B2], H⟩ ?_
 rcases Aw (x4.Cause_ != p1.Cause_) with h9 | h9
 refine Fe (congrArg (fun q => (⟨L55 ++ [(38, vb q), (39, vb q), (40, vb q)], [B2], H⟩ : St)) h9) ?_
 refine ydk 46 ⟨L126 ++ L150, [B2], H⟩ ?_
 refine Uf (congrArg (fun q0 => (⟨L44 ++ [(86, vb q0)], [B2], H⟩ : St)) (show true = ((!(Bu x4.R_ p1.R_)) || ((x4.PC_ != p1.PC_) || ((x4.EPC_ != p1.EPC_) || ((x4.Cause_ != p1.Cause_) || ((x4.State_ != p1.State_) || ((x4.Why_ != p1.Why_) || ((x4.Steps_ != p1.Steps_) || ((x4.Taken_ != p1.Taken_) || ((x4.Out_.length : Int) != (p1.Out_.length : Int)))))))))) by simp [h6, h7, h8, h9])) ?_
 exact yde
 refine Fe (congrArg (fun q => (⟨L55 ++ [(38, vb q), (39, vb q), (40, vb q)], [B2], H⟩ : St)) h9) ?_
 refine ydk 3 ⟨L75, [B2], H⟩ ?_
 refine Ao ⟨L75 ++ [E17], [B2], H⟩ (yd (X := X) (⟨L75, [B2], H⟩ : St) 3 V5 19 1 false (vi x4.State_) (some 44)) ?_
 refine ydk 5 ⟨L78 ++ [E18, E19, (49, vb (x4.State_ != p1.State_))], [B2], H⟩ ?_
 rcases Aw (x4.State_ != p1.State_) with h10 | h10
 refine Fe (congrArg (fun q => (⟨L78 ++ [(47, vb q), (48, vb q), (49, vb q)], [B2], H⟩ : St)) h10) ?_
 refine ydk 37 ⟨L127 ++ L150, [B2], H⟩ ?_
 refine Uf (congrArg (fun q0 => (⟨L44 ++ [(86, vb q0)], [B2], H⟩ : St)) (show true = ((!(Bu x4.R_ p1.R_)) || ((x4.PC_ != p1.PC_) || ((x4.EPC_ != p1.EPC_) || ((x4.Cause_ != p1.Cause_) || ((x4.State_ != p1.State_) || ((x4.Why_ != p1.Why_) || ((x4.Steps_ != p1.Steps_) || ((x4.Taken_ != p1.Taken_) || ((x4.Out_.length : Int) != (p1.Out_.length : Int)))))))))) by simp [h6, h7, h8, h9, h10])) ?_
 exact yde
 refine Fe (congrArg (fun q => (⟨L78 ++ [(47, vb q), (48, vb q), (49, vb q)], [B2], H⟩ : St)) h10) ?_
 refine ydk 3 ⟨L94, [B2], H⟩ ?_
 refine Ao ⟨L94 ++ [E20], [B2], H⟩ (yd (X := X) (⟨L94, [B2], H⟩ : St) 33 V5 20 1 false (vi x4.Why_) (some 53)) ?_
 refine ydk 5 ⟨L95 ++ [E21, E22, (58, vb (x4.Why_ != p1.Why_))], [B2], H⟩ ?_
 rcases Aw (x4.Why_ != p1.Why_) with h11 | h11
 refine Fe (congrArg (fun q => (⟨L95 ++ [(56, vb q), (57, vb q), (58, vb q)], [B2], H⟩ : St)) h11) ?_
 refine ydk 28 ⟨L128 ++ L150, [B2], H⟩ ?_
 refine Uf (congrArg (fun q0 => (⟨L44 ++ [(86, vb q0)], [B2], H⟩ : St)) (show true = ((!(Bu x4.R_ p1.R_)) || ((x4.PC_ != p1.PC_) || ((x4.EPC_ != p1.EPC_) || ((x4.Cause_ != p1.Cause_) || ((x4.State_ != p1.State_) || ((x4.Why_ != p1.Why_) || ((x4.Steps_ != p1.Steps_) || ((x4.Taken_ != p1.Taken_) || ((x4.Out_.length : Int) != (p1.Out_.length : Int)))))))))) by simp [h6, h7, h8, h9, h10, h11])) ?_
 exact yde
 refine Fe (congrArg (fun q => (⟨L95 ++ [(56, vb q), (57, vb q), (58, vb q)], [B2], H⟩ : St)) h11) ?_
 refine ydk 3 ⟨L104, [B2], H⟩ ?_
 refine Ao ⟨L104 ++ [E23], [B2], H⟩ (yd (X := X) (⟨L104, [B2], H⟩ : St) 3 V5 21 1 false (vi x4.Steps_) (some 62)) ?_
 refine ydk 5 ⟨L105 ++ [E24, E25, (67, vb (x4.Steps_ != p1.Steps_))], [B2], H⟩ ?_
 rcases Aw (x4.Steps_ != p1.Steps_) with h12 | h12
 refine Fe (congrArg (fun q => (⟨L105 ++ [(65, vb q), (66, vb q), (67, vb q)], [B2], H⟩ : St)) h12) ?_
 refine ydk 19 ⟨L130 ++ L150, [B2], H⟩ ?_
 refine Uf (congrArg (fun q0 => (⟨L44 ++ [(86, vb q0)], [B2], H⟩ : St)) (show true = ((!(Bu x4.R_ p1.R_)) || ((x4.PC_ != p1.PC_) || ((x4.EPC_ != p1.EPC_) || ((x4.Cause_ != p1.Cause_) || ((x4.State_ != p1.State_) || ((x4.Why_ != p1.Why_) || ((x4.Steps_ != p1.Steps_) || ((x4.Taken_ != p1.Taken_) || ((x4.Out_.length : Int) != (p1.Out_.length : Int)))))))))) by simp [h6, h7, h8, h9, h10, h11, h12])) ?_
 exact yde
 refine Fe (congrArg (fun q => (⟨L105 ++ [(65, vb q), (66, vb q), (67, vb q)], [B2], H⟩ : St)) h12) ?_
 refine ydk 3 ⟨L117, [B2], H⟩ ?_
 refine Ao ⟨L117 ++ [E26], [B2], H⟩ (yd (X := X) (⟨L117, [B2], H⟩ : St) 3 V5 22 1 false (vi x4.Taken_) (some 71)) ?_
 refine ydk 5 ⟨L119 ++ [E27, E28, (76, vb (x4.Taken_ != p1.Taken_))], [B2], H⟩ ?_
 rcases Aw (x4.Taken_ != p1.Taken_) with h13 | h13
 refine Fe (congrArg (fun q => (⟨L119 ++ [(74, vb q), (75, vb q), (76, vb q)], [B2], H⟩ : St)) h13) ?_
 refine ydk 10 ⟨L155 ++ [(85, vN), (86, vT)], [B2], H⟩ ?_
 refine Uf (congrArg (fun q0 => (⟨L44 ++ [(86, vb q0)], [B2], H⟩ : St)) (show true = ((!(Bu x4.R_ p1.R_)) || ((x4.PC_ != p1.PC_) || ((x4.EPC_ != p1.EPC_) || ((x4.Cause_ != p1.Cause_) || ((x4.State_ != p1.State_) || ((x4.Why_ != p1.Why_) || ((x4.Steps_ != p1.Steps_) || ((x4.Taken_ != p1.Taken_) || ((x4.Out_.length : Int) != (p1.Out_.length : Int)))))))))) by simp [h6, h7, h8, h9, h10, h11, h12, h13])) ?_
 exact yde
 refine Fe (congrArg (fun q => (⟨L119 ++ [(74, vb q), (75, vb q), (76, vb q)], [B2], H⟩ : St)) h13) ?_
 refine ydk 3 ⟨L133 ++ [E29, E30], [B2], H⟩ ?_
 refine Ao ⟨L145, [B2], H⟩ (yd (X := X) (⟨L133 ++ [E29, E30], [B2], H⟩ : St) 47 V5 23 1 false (.one .bh (.sl 2 (List.map Ae x4.Out_))) (some 80)) ?_
 refine Ao ⟨L145 ++ [E31], [B2], H⟩ (yl (⟨L145, [B2], H⟩ : St) x4.Out_ Ae (some 81)) ?_
 refine ydk 2 ⟨L153, [B2], H⟩ ?_
 refine Ao ⟨L153 ++ [E32], [B2], H⟩ (yl (⟨L153, [B2], H⟩ : St) p1.Out_ Ae (some 84)) ?_
 refine ydk 2 ⟨L153 ++ [E32, E33, (86, vb ((x4.Out_.length : Int) != (p1.Out_.length : Int)))], [B2], H⟩ ?_
 refine Uf (congrArg (fun q0 => (⟨L44 ++ [(86, vb q0)], [B2], H⟩ : St)) (show ((x4.Out_.length : Int) != (p1.Out_.length : Int)) = ((!(Bu x4.R_ p1.R_)) || ((x4.PC_ != p1.PC_) || ((x4.EPC_ != p1.EPC_) || ((x4.Cause_ != p1.Cause_) || ((x4.State_ != p1.State_) || ((x4.Why_ != p1.Why_) || ((x4.Steps_ != p1.Steps_) || ((x4.Taken_ != p1.Taken_) || ((x4.Out_.length : Int) != (p1.Out_.length : Int)))))))))) by simp [h6, h7, h8, h9, h10, h11, h12, h13])) ?_
 exact yde
 rcases Af hF with ⟨h14, hF⟩ | ⟨h14, hF⟩
 refine yT h14 S156 ?_
 refine ysg S157 ?_
 refine As ?_
 obtain e0 := Al hF
 subst e0
 exact yp (vF)
 refine yF h14 ⟨L44, [B2], H⟩ ?_
 refine Am ?_
 refine Ah ?_
 refine ysg ⟨L44 ++ [(5, vi 0)], [B2], H⟩ ?_
 refine Bs ?_
 obtain ⟨r22, hL23, hF⟩ := Ab hF
 refine Ql (fun (x : (Int)) => (⟨L44 ++ [(5, vi x)], [B2], H⟩ : St)) (Sum.elim (fun (y : Unit) => ((.exit 0, S156) : Ex × St)) (fun (y : Unit) => ((.ret, S157) : Ex × St))) hL23 (by kernel_rfl) ?_ ?_
 rintro a15 o hF
 replace hF : Gf p1 x4 a15 = some o := hF
 let E34 : EN := (91, vb (decide (a15 < (p1.Out_.length : Int))))
 let L122 : List EN := L44 ++ [(5, vi a15)]
 let L131 : List EN := L122 ++ [E37, (95, vo i1 o2), (96, vo i1 (o2 + 23))]
 let L134 : List EN := L131 ++ [E38, (98, vi a15)]
 let L154 : List EN := L122 ++ [(87, vi a15), (88, vl 3 23), (89, .one (.own 0) (.sl 2 (List.map Ae p1.Out_)))]
 unfold Gf at hF
 refine Ah ?_
 refine yso ⟨L122 ++ [E34], [B2], H⟩ ?_ ?_
 refine yr 3 ⟨L154, [B2], H⟩ ?_
 refine Aj ⟨L154 ++ [E35], [B2], H⟩ (yl (⟨L154, [B2], H⟩ : St) p1.Out_ Ae (some 90)) ?_
 refine yr 1 ⟨L154 ++ [E35, E34], [B2], H⟩ ?_
 exact ye
 rcases Af hF with ⟨h16, hF⟩ | ⟨h16, hF⟩
 refine yT h16 ⟨L122, [B2], H⟩ ?_
 refine Am ?_
 refine Ah ?_
 refine Bs ?_
 refine Ah ?_
 obtain ⟨x17, h18, hF⟩ := Ab hF
 let E39 : EN := (99, .one .top (.rd .bh .bh [.int .i64 x17.Port_, .int .i32 x17.Value_] 0))
 let L146 : List EN := L134 ++ [E39, (100, .agg [(.top, .int .i64 x17.Port_), (.top, .int .i32 x17.Value_)])]
 let L152 : List EN := L146 ++ [E40, E41, (103, vi a15)]
 obtain ⟨x19, h20, hF⟩ := Ab hF
 let E36 : EN := (106, vb (!(Qp x17 x19)))
 let E42 : EN := (104, .one .top (.rd (.own 0) (.own 0) [.int .i64 x19.Port_, .int .i32 x19.Value_] 0))
 let E43 : EN := (105, .agg [(.top, .int .i64 x19.Port_), (.top, .int .i32 x19.Value_)])
 refine Bn (.take 0 (.take 1 (.take 2 (.take 3 (.take 4 (.take 5 (.take 6 (.take 7 (.take 8 (.take 9 (.take 10 (.take 11 (.take 12 .done))))))))))))) (by kernel_rfl) (⟨L122 ++ [E36], [B2], H⟩ : St) ?_ ?_
 refine ydk 3 ⟨L131, [B2], H⟩ ?_
 refine Ao ⟨L131 ++ [E38], [B2], H⟩ (yd (X := X) (⟨L131, [B2], H⟩ : St) 47 V5 23 1 false (.one .bh (.sl 2 (List.map Ae x4.Out_))) (some 97)) ?_
 refine ydt ⟨L134, [B2], H⟩ ?_
 refine Ao ⟨L134 ++ [E39], [B2], H⟩ (Qw (X := X) (⟨L134, [B2], H⟩ : St) 47 67 2 h18 Ae .bh (some 99) (by kernel_rfl) (by kernel_rfl) (by kernel_rfl) (by kernel_rfl)) ?_
 refine ydk 4 ⟨L152, [B2], H⟩ ?_
 refine Ao ⟨L152 ++ [E42], [B2], H⟩ (Qw (X := X) (⟨L152, [B2], H⟩ : St) 47 67 2 h20 Ae (.own 0) (some 104) (by kernel_rfl) (by kernel_rfl) (by kernel_rfl) (by kernel_rfl)) ?_
 refine ydt ⟨L152 ++ [E42, E43], [B2], H⟩ ?_
 refine Ao ⟨L152 ++ [E42, E43, E36], [B2], H⟩ (Qk (⟨L152 ++ [E42, E43], [B2], H⟩ : St) (Wt (P := X.P) (ty := 67) (x := (.tmp 100)) (y := (.tmp 105)) (cs := [(.top, .int .i64 x17.Port_), (.top, .int .i32 x17.Value_)]) (ds := [(.top, .int .i64 x19.Port_), (.top, .int .i32 x19.Value_)]) (us := [.int .i64 x17.Port_, .int .i32 x17.Value_]) (vs := [.int .i64 x19.Port_, .int .i32 x19.Value_]) (qs := [x17.Port_ == x19.Port_, x17.Value_ == x19.Value_]) (by kernel_rfl) (by kernel_rfl) (by kernel_rfl) (by kernel_rfl)) rfl (some 106) (by kernel_rfl) (by kernel_rfl)) ?_
 exact yde
 rcases Af hF with ⟨h21, hF⟩ | ⟨h21, hF⟩
 refine yT h21 S156 ?_
 refine ysg S157 ?_
 refine As ?_
 cases hF
 exact ⟨_, rfl, (by kernel_rfl)⟩
 refine yF h21 ⟨L122, [B2], H⟩ ?_
 refine Am ?_
 refine yg ⟨L44 ++ [(5, vi (IntKind.wrap .i64 (a15 + 1)))], [B2], H⟩ ?_
 cases hF
 exact ⟨_, rfl, (by kernel_rfl)⟩
 refine yF h16 S156 ?_
 refine Pg ?_
 cases hF
 exact ⟨_, rfl, (by kernel_rfl)⟩
 rcases Rl hF with ⟨r22', rfl, hF⟩ | ⟨r22', rfl, hF⟩
 refine bQ (i := 0) (s := S156) (by kernel_rfl) ?_
 refine Qj ?_
 refine ysg ⟨[(4, vT)], [], H⟩ ?_
 refine As ?_
 obtain e0 := Al hF
 subst e0
 exact yp (vT)
 refine lT (s := S157) (by kernel_rfl) ?_
 obtain e0 := Al hF
 subst e0
 exact yp (vF)
noncomputable def Jh (H : Ai) (p0 : Ptr) : Option (T_memory_Layout) :=
  (p0).bnd fun i1 o2 =>
  Ag (Cr H i1 o2) fun x4 =>
  some x4.layout_
theorem Ro (H : Ai) {p0 : Ptr} {ra : T_memory_Layout} (hF : Jh H p0 = some ra) : evS X 107 [.one .top (Ptr.av p0)] H = some (.agg (A9 ra), H) := by
 let E1 : EN := (2, vl 2 0)
 let B2 : EB := (2, (List.replicate 5 (.top, .int .u32 0)))
 refine yf Try.func107 true ⟨[(0, vp p0)], [], H⟩ ?_
 unfold Jh at hF
 refine ysg ⟨[(0, vp p0), E1], [B2], H⟩ ?_ (h := (by generalize p0 = qp0; cases qp0 <;> kernel_rfl))
 refine Ah ?_
 obtain ⟨i1, o2, h3, hF⟩ := Br hF
 let L5 : List EN := [(0, vo i1 o2), E1, (3, vo i1 o2), (4, vo i1 o2), (5, vo i1 o2)]
 obtain ⟨x4, V5, hF⟩ := Ab hF
 replace V5 := A8 V5
 let B3 : EB := (2, [(.top, .int .u32 x4.layout_.Code_), (.top, .int .u32 x4.layout_.Tables_), (.top, .int .u32 x4.layout_.Data_), (.top, .int .u32 x4.layout_.Heap_), (.top, .int .u32 x4.layout_.Stack_)])
 let E4 : EN := (6, .agg [(.top, .int .u32 x4.layout_.Code_), (.top, .int .u32 x4.layout_.Tables_), (.top, .int .u32 x4.layout_.Data_), (.top, .int .u32 x4.layout_.Heap_), (.top, .int .u32 x4.layout_.Stack_)])
 refine Ak ⟨[E1], [B3], H⟩ ?_ ?_
 refine yr 1 ⟨[(0, vp p0), E1, (3, vp p0)], [B2], H⟩ ?_ (h := (by generalize p0 = qp0; cases qp0 <;> kernel_rfl))
 refine Bc (congrArg (fun q => (⟨[(0, vp q), E1, (3, vp q)], [B2], H⟩ : St)) h3) ?_
 refine yr 1 ⟨[(0, vo i1 o2), E1, (3, vo i1 o2), (4, vo i1 o2)], [B2], H⟩ ?_
 refine yr 1 ⟨L5, [B2], H⟩ ?_
 refine Aj ⟨L5 ++ [E4], [B2], H⟩ (yd (X := X) (⟨L5, [B2], H⟩ : St) 92 V5 0 5 true (.agg [(.top, .int .u32 x4.layout_.Code_), (.top, .int .u32 x4.layout_.Tables_), (.top, .int .u32 x4.layout_.Data_), (.top, .int .u32 x4.layout_.Heap_), (.top, .int .u32 x4.layout_.Stack_)]) (some 6)) ?_
 refine yr 1 ⟨L5 ++ [E4], [B3], H⟩ ?_
 exact ye
 refine As ?_
 obtain e0 := Al hF
 subst e0
 exact yp (.agg [(.top, .int .u32 x4.layout_.Code_), (.top, .int .u32 x4.layout_.Tables_), (.top, .int .u32 x4.layout_.Data_), (.top, .int .u32 x4.layout_.Heap_), (.top, .int .u32 x4.layout_.Stack_)])
noncomputable def Fc (p1 : T_ref03_Mem) (H : Ai) (p0 : Ptr) (a6 : Int) : Option ((Int) ⊕ (Unit ⊕ Unit)) :=
  if (decide (a6 < (p1.W_.length : Int))) = true then (Ch (Ef H p0 (IntKind.wrap .u32 (IntKind.wrap .i64 (4 * a6)))) fun r8 r9 =>
  Ag (if (r9 != 0) = true then (some true) else (Ag (gi p1.W_ a6) fun x12 =>
  some (r8 != x12))) fun w14 =>
  if w14 = true then (some (Sum.inr (Sum.inr ())))
  else (some (Sum.inl (IntKind.wrap .i64 (a6 + 1)))))
  else (some (Sum.inr (Sum.inl ())))
noncomputable def Mv (H : Ai) (p0 : Ptr) (p1 : T_ref03_Mem) : Option (Bool) :=
  Ag (Jh H p0) fun r1 =>
  Ag (Kx r1) fun r3 =>
  if (!(Ph r3 p1.Ends_)) = true then (some false)
  else (Ag (Gg (fun (x : (Int)) => Fc p1 H p0 x) 0) (dO (fun (_ : Unit) =>
  some true) (fun (_ : Unit) =>
  some false)))
theorem Zs (H : Ai) {p0 : Ptr} {p1 : T_ref03_Mem} {ra : Bool} (hF : Mv H p0 p1 = some ra) : evS X 61 [.one .top (Ptr.av p0), .agg (Ad p1)] H = some (.one .top (.bool ra), H) := by
 let B1 : EB := (3, (Ad p1))
 let E5 : EN := (17, vi (p1.W_.length : Int))
 let L8 : Ptr → List EN := fun z0 => [(0, vp z0), (3, vl 3 0)]
 let L10 : Ptr → List EN := fun z0 => (L8 z0) ++ [(8, vp z0)]
 let L12 : List EN := [(11, vl 3 0), (12, .agg (arM .u32 5 p1.Ends_))]
 let S17 : St := ⟨[], [], H⟩
 let S18 : St := ⟨[(4, vF)], [], H⟩
 refine yf Try.func61 true ⟨[(0, vp p0), (1, .agg (Ad p1))], [], H⟩ ?_
 unfold Mv at hF
 refine ysg ⟨(L8 p0), [B1], H⟩ ?_ (h := (by generalize p0 = qp0; cases qp0 <;> kernel_rfl))
 refine Ah ?_
 refine Ah ?_
 obtain ⟨r1, c2, hF⟩ := Ab hF
 let E3 : EN := (9, .agg (A9 r1))
 obtain ⟨r3, c4, hF⟩ := Ab hF
 let E2 : EN := (13, vb (!(Ph r3 p1.Ends_)))
 let L16 : Ptr → List EN := fun z0 => (L10 z0) ++ [E3, (10, .agg (arM .u32 5 r3))] ++ L12
 refine Bn (.take 0 (.take 3 (.take 4 (.last 1 (.last 2 (.take 5 .done)))))) (by kernel_rfl) (⟨(L8 p0) ++ [E2], [B1], H⟩ : St) ?_ ?_
 refine Ao ⟨(L10 p0), [B1], H⟩ (by generalize p0 = qp0; cases qp0 <;> kernel_rfl) ?_
 refine Ao ⟨(L10 p0) ++ [(11, vl 3 0)], [B1], H⟩ (by generalize p0 = qp0; cases qp0 <;> kernel_rfl) ?_
 refine Ao ⟨(L10 p0) ++ L12, [B1], H⟩ (by generalize p0 = qp0; cases qp0 <;> kernel_rfl) ?_
 refine Bo ⟨(L10 p0) ++ [E3] ++ L12, [B1], H⟩ (yc (some 9) true false (⟨(L10 p0) ++ L12, [B1], H⟩ : St) (Ro H c2) (hr := (by generalize p0 = qp0; cases qp0 <;> kernel_rfl)) (hs := (by generalize p0 = qp0; cases qp0 <;> kernel_rfl))) ?_
 refine Bo ⟨(L16 p0), [B1], H⟩ (yc (some 10) true false (⟨(L10 p0) ++ [E3] ++ L12, [B1], H⟩ : St) (Pi H c4) (hr := (by generalize p0 = qp0; cases qp0 <;> kernel_rfl)) (hs := (by generalize p0 = qp0; cases qp0 <;> kernel_rfl))) ?_
 refine Ao ⟨(L16 p0) ++ [E2], [B1], H⟩ (Qk (⟨(L16 p0), [B1], H⟩ : St) (Wt (P := X.P) (ty := 72) (x := (.tmp 10)) (y := (.tmp 12)) (cs := (arM .u32 5 r3)) (ds := (arM .u32 5 p1.Ends_)) (us := [.int .u32 (r3.g 0), .int .u32 (r3.g 1), .int .u32 (r3.g 2), .int .u32 (r3.g 3), .int .u32 (r3.g 4)]) (vs := [.int .u32 (p1.Ends_.g 0), .int .u32 (p1.Ends_.g 1), .int .u32 (p1.Ends_.g 2), .int .u32 (p1.Ends_.g 3), .int .u32 (p1.Ends_.g 4)]) (qs := [(r3.g 0) == (p1.Ends_.g 0), (r3.g 1) == (p1.Ends_.g 1), (r3.g 2) == (p1.Ends_.g 2), (r3.g 3) == (p1.Ends_.g 3), (r3.g 4) == (p1.Ends_.g 4)]) (by generalize p0 = qp0; cases qp0 <;> kernel_rfl) (by generalize p0 = qp0; cases qp0 <;> kernel_rfl) (by generalize p0 = qp0; cases qp0 <;> kernel_rfl) (by generalize p0 = qp0; cases qp0 <;> kernel_rfl)) rfl (some 13) (by generalize p0 = qp0; cases qp0 <;> kernel_rfl) (by generalize p0 = qp0; cases qp0 <;> kernel_rfl)) ?_
 exact yde
 rcases Af hF with ⟨h5, hF⟩ | ⟨h5, hF⟩
 refine yT h5 S17 ?_
 refine ysg S18 ?_
 refine As ?_
 obtain e0 := Al hF
 subst e0
 exact yp (vF)
 refine yF h5 ⟨(L8 p0), [B1], H⟩ ?_
 refine Am ?_
 refine Ah ?_
 refine ysg ⟨(L8 p0) ++ [(5, vi 0)], [B1], H⟩ ?_ (h := (by generalize p0 = qp0; cases qp0 <;> kernel_rfl))
 refine Bs ?_
 obtain ⟨r17, hL18, hF⟩ := Ab hF
 refine Ql (fun (x : (Int)) => (⟨(L8 p0) ++ [(5, vi x)], [B1], H⟩ : St)) (Sum.elim (fun (y : Unit) => ((.exit 0, S17) : Ex × St)) (fun (y : Unit) => ((.ret, S18) : Ex × St))) hL18 (by kernel_rfl) ?_ ?_
 rintro a6 o hF
 replace hF : Fc p1 H p0 a6 = some o := hF
 let E4 : EN := (18, vb (decide (a6 < (p1.W_.length : Int))))
 let L9 : Ptr → List EN := fun z0 => (L8 z0) ++ [(5, vi a6)]
 let L13 : Ptr → List EN := fun z0 => [(22, vp z0), (23, vi a6), (24, vi (IntKind.wrap .i64 (4 * a6))), (25, vu (IntKind.wrap .u32 (IntKind.wrap .i64 (4 * a6))))]
 let L14 : Ptr → List EN := fun z0 => (L9 z0) ++ [(14, vi a6), (15, vl 3 5), (16, .one (.own 0) (.sl 1 (List.map (eI .u32) p1.W_)))]
 unfold Fc at hF
 refine Ah ?_
 refine yso ⟨(L9 p0) ++ [E4], [B1], H⟩ ?_ ?_
 refine yr 3 ⟨(L14 p0), [B1], H⟩ ?_ (h := (by generalize p0 = qp0; cases qp0 <;> kernel_rfl))
 refine Aj ⟨(L14 p0) ++ [E5], [B1], H⟩ (bR (⟨(L14 p0), [B1], H⟩ : St) p1.W_ (eI .u32) (some 17) (by generalize p0 = qp0; cases qp0 <;> kernel_rfl) (by generalize p0 = qp0; cases qp0 <;> kernel_rfl)) ?_
 refine yr 1 ⟨(L14 p0) ++ [E5, E4], [B1], H⟩ ?_ (h := (by generalize p0 = qp0; cases qp0 <;> kernel_rfl))
 exact ye
 rcases Af hF with ⟨h7, hF⟩ | ⟨h7, hF⟩
 refine yT h7 ⟨(L9 p0), [B1], H⟩ ?_
 refine Am ?_
 refine Ah ?_
 refine Bs ?_
 refine Ah ?_
 obtain ⟨r8, r9, c10, hF⟩ := Bg hF
 let E6 : EN := (26, .tup [vu r8, vi r9])
 let L11 : Ptr → List EN := fun z0 => (L9 z0) ++ [(6, vu r8), (7, vi r9), (29, vi r9)]
 let L15 : Ptr → List EN := fun z0 => (L11 z0) ++ [(30, vF), (31, vF), (32, vu r8), (33, vl 3 5), (34, .one (.own 0) (.sl 1 (List.map (eI .u32) p1.W_))), (35, vi a6)]
 refine Ak ⟨(L9 p0) ++ [(6, vu r8), (7, vi r9)], [B1], H⟩ ?_ ?_
 refine yr 4 ⟨(L9 p0) ++ (L13 p0), [B1], H⟩ ?_ (h := (by generalize p0 = qp0; cases qp0 <;> kernel_rfl))
 refine Aj ⟨(L9 p0) ++ (L13 p0) ++ [E6], [B1], H⟩ (yc (some 26) true false (⟨(L9 p0) ++ (L13 p0), [B1], H⟩ : St) (Ou H c10) (hr := (by generalize p0 = qp0; cases qp0 <;> kernel_rfl)) (hs := (by generalize p0 = qp0; cases qp0 <;> kernel_rfl))) ?_
 refine yr 5 ⟨(L9 p0) ++ [(6, vu r8), (7, vi r9), (21, .tup [vu r8, vi r9])] ++ (L13 p0) ++ [E6, (27, vu r8), (28, vi r9)], [B1], H⟩ ?_ (h := (by generalize p0 = qp0; cases qp0 <;> kernel_rfl))
 exact ye
 refine Ah ?_
 obtain ⟨w14, hB15, hF⟩ := Ab hF
 refine Ak ⟨(L9 p0) ++ [(39, vb w14)], [B1], H⟩ ?_ ?_
 refine yr 3 ⟨(L11 p0) ++ [(30, vb (r9 != 0)), (31, vb (r9 != 0))], [B1], H⟩ ?_ (h := (by generalize p0 = qp0; cases qp0 <;> kernel_rfl))
 rcases Af hB15 with ⟨h11, hB15⟩ | ⟨h11, hB15⟩
 refine Bc (congrArg (fun q => (⟨(L11 p0) ++ [(30, vb q), (31, vb q)], [B1], H⟩ : St)) h11) ?_
 refine yr 8 ⟨(L11 p0) ++ [(30, vT), (31, vT), (32, vN), (33, vN), (34, vN), (35, vN), (36, vN), (37, vN), (38, vN), (39, vT)], [B1], H⟩ ?_ (h := (by generalize p0 = qp0; cases qp0 <;> kernel_rfl))
 cases hB15
 exact ye
 refine Bc (congrArg (fun q => (⟨(L11 p0) ++ [(30, vb q), (31, vb q)], [B1], H⟩ : St)) h11) ?_
 refine yr 4 ⟨(L15 p0), [B1], H⟩ ?_ (h := (by generalize p0 = qp0; cases qp0 <;> kernel_rfl))
 obtain ⟨x12, h13, hB15⟩ := Ab hB15
 let E7 : EN := (36, .one .top (.rd (.own 0) (.own 0) [.int .u32 x12] 0))
 refine Aj ⟨(L15 p0) ++ [E7], [B1], H⟩ (Qw (X := X) (⟨(L15 p0), [B1], H⟩ : St) 42 35 1 h13 (eI .u32) (.own 0) (some 36) (by generalize p0 = qp0; cases qp0 <;> kernel_rfl) (by generalize p0 = qp0; cases qp0 <;> kernel_rfl) (by generalize p0 = qp0; cases qp0 <;> kernel_rfl) (by generalize p0 = qp0; cases qp0 <;> kernel_rfl)) ?_
 refine yr 3 ⟨(L15 p0) ++ [E7, (37, vu x12), (38, vb (r8 != x12)), (39, vb (r8 != x12))], [B1], H⟩ ?_ (h := (by generalize p0 = qp0; cases qp0 <;> kernel_rfl))
 cases hB15
 exact ye
 rcases Af hF with ⟨h16, hF⟩ | ⟨h16, hF⟩
 refine yT h16 S17 ?_
 refine ysg S18 ?_
 refine As ?_
 cases hF
 exact ⟨_, rfl, (by kernel_rfl)⟩
 refine yF h16 ⟨(L9 p0), [B1], H⟩ ?_
 refine Am ?_
 refine Yv ⟨(L8 p0) ++ [(5, vi (IntKind.wrap .i64 (a6 + 1)))], [B1], H⟩ (by generalize p0 = qp0; cases qp0 <;> kernel_rfl) ?_
 cases hF
 exact ⟨_, rfl, (by kernel_rfl)⟩
 refine yF h7 S17 ?_
 refine Pg ?_
 cases hF
 exact ⟨_, rfl, (by kernel_rfl)⟩
 rcases Rl hF with ⟨r17', rfl, hF⟩ | ⟨r17', rfl, hF⟩
 refine bQ (i := 0) (s := S17) (by kernel_rfl) ?_
 refine Qj ?_
 refine ysg ⟨[(4, vT)], [], H⟩ ?_
 refine As ?_
 obtain e0 := Al hF
 subst e0
 exact yp (vT)
 refine lT (s := S18) (by kernel_rfl) ?_
 obtain e0 := Al hF
 subst e0
 exact yp (vF)
noncomputable def C6 (r8 : Ptr) (r9 : Ptr) (a20 : Int) (a21 : T_ref04_Cpu) (a22 : T_ref03_Mem) (H23 : Ai) : Option ((Int × T_ref04_Cpu × T_ref03_Mem × Ai) ⊕ ((T_ref03_Mem × Ai) ⊕ (Ai))) :=
  if (decide (a20 < 60)) = true then (Ch (Ge a21 a22) fun r25 r26 =>
  Ch (Ev H23 r8 r9) fun H30 r28 =>
  Ag (if (r28 != r25.State_) = true then (some true) else (Ag (Oy H30 r8 r25) fun r32 =>
  some (!r32))) fun w34 =>
  if w34 = true then (some (Sum.inr (Sum.inr H30)))
  else (some (Sum.inl ((IntKind.wrap .i64 (a20 + 1)), r25, r26, H30))))
  else (some (Sum.inr (Sum.inl (a22, H23))))
noncomputable def Ly (H : Ai) (p0 : T_law04_Case) : Option (Ai × Bool) :=
  Ch (Ni H) fun H3 r1 =>
  if (!r1) = true then (some (H3, false))
  else (Ag (Ms p0) fun r5 =>
  if (!r5) = true then (some (H3, true))
  else (lP (Nj H3 p0) fun H13 r8 r9 r10 r11 =>
  Ag (if r8.isNil = true then (some true) else (Ag (M0 H13 r8) fun r15 =>
  some (!(N7 r15 p0.S_)))) fun w17 =>
  if w17 = true then (some (H13, false))
  else (Ag (Gg (fun (x : (Int × T_ref04_Cpu × T_ref03_Mem × Ai)) => C6 r8 r9 x.1 x.2.1 x.2.2.1 x.2.2.2) (0, r10, r11, H13)) (dO (qL fun b39 H40 =>
  Ag (Mv H40 r9 b39) fun r41 =>
  some (H40, r41)) (fun H43 =>
  some (H43, false))))))
theorem ok_law04_CpuSteps (H : Ai) {p0 : T_law04_Case} {ra : Bool} {Hr : Ai} (hF : Ly H p0 = some (Hr, ra)) : evS X 12 [.agg (C9 p0)] H = some (.one .top (.bool ra), Hr) := by
 let E1 : EN := (1, vl 1 0)
 let B2 : EB := (1, (C9 p0))
 let E3 : EN := (12, .agg (C9 p0))
 let E6 : EN := (16, .agg (C9 p0))
 let E7 : EN := (27, vl 1 5)
 let E8 : EN := (28, .agg [(.top, .int .u32 p0.S_.Entry_), (.top, .int .u32 p0.S_.Vector_), (.top, .int .u32 p0.S_.Guard_), (.top, .int .u32 p0.S_.Limit_)])
 let E11 : EN := (6, vl 6 0)
 let E19 : EN := (44, vl 8 19)
 refine yf Try.func12 false ⟨[(0, .agg (C9 p0))], [], H⟩ ?_
 unfold Ly at hF
 refine ysg ⟨[E1], [B2], H⟩ ?_
 refine Ah ?_
 refine Ah ?_
 obtain ⟨H3, r1, c2, hF⟩ := Bg hF
 refine Ak ⟨[E1, (11, vb (!r1))], [B2], H3⟩ ?_ ?_
 refine Aj ⟨[E1, (10, vb r1)], [B2], H3⟩ (yc (some 10) false false (⟨[E1], [B2], H⟩ : St) (Y3 H c2)) ?_
 refine yr 1 ⟨[E1, (10, vb r1), (11, vb (!r1))], [B2], H3⟩ ?_
 exact ye
 rcases Af hF with ⟨h4, hF⟩ | ⟨h4, hF⟩
 refine yT h4 ⟨[], [], H3⟩ ?_
 refine ysg ⟨[(2, vF)], [], H3⟩ ?_
 refine As ?_
 obtain ⟨e0, e1⟩ := Ap hF
 subst e0
 subst e1
 exact yi (vF)
 refine yF h4 ⟨[E1], [B2], H3⟩ ?_
 refine Am ?_
 refine Ah ?_
 refine Ah ?_
 obtain ⟨r5, c6, hF⟩ := Ab hF
 refine Ak ⟨[E1, (14, vb (!r5))], [B2], H3⟩ ?_ ?_
 refine yr 1 ⟨[E1, E3], [B2], H3⟩ ?_
 refine Aj ⟨[E1, E3, (13, vb r5)], [B2], H3⟩ (yc (some 13) true false (⟨[E1, E3], [B2], H3⟩ : St) (bW H3 c6)) ?_
 refine yr 1 ⟨[E1, E3, (13, vb r5), (14, vb (!r5))], [B2], H3⟩ ?_
 exact ye
 rcases Af hF with ⟨h7, hF⟩ | ⟨h7, hF⟩
 refine yT h7 ⟨[], [], H3⟩ ?_
 refine ysg ⟨[(2, vT)], [], H3⟩ ?_
 refine As ?_
 obtain ⟨e0, e1⟩ := Ap hF
 subst e0
 subst e1
 exact yi (vT)
 refine yF h7 ⟨[E1], [B2], H3⟩ ?_
 refine Am ?_
 refine Ah ?_
 obtain ⟨H13, r8, r9, r10, r11, c12, hF⟩ := jT hF
 let B4 : EB := (5, (Ac r10))
 let B5 : EB := (6, (Ad r11))
 let E10 : Ptr → EN := fun z0 => (4, vp z0)
 let L27 : Ptr → Ptr → List EN := fun z0 z1 => [(3, vp z0), (E10 z1), (5, vl 5 0), E11]
 let L30 : Ptr → Ptr → List EN := fun z0 z1 => [E1] ++ (L27 z0 z1) ++ [(22, vp z0)]
 let L33 : Ptr → Ptr → List EN := fun z0 z1 => (L30 z0 z1) ++ [(23, vF), (24, vF), (25, vp z0)]
 let L34 : Ptr → Ptr → List EN := fun z0 z1 => (L30 z0 z1) ++ [(23, vT), (24, vT), (25, vN)]
 let L39 : Ptr → Ptr → List EN := fun z0 z1 => (L34 z0 z1) ++ [(26, vN), (27, vN), (28, vN)]
 refine Ak ⟨[E1] ++ (L27 r8 r9), [B2, B4, B5], H13⟩ ?_ ?_
 refine yr 1 ⟨[E1, E6], [B2], H3⟩ ?_
 refine Aj ⟨[E1, E6, (17, .tup [vp r8, vp r9, .agg (Uj r10), .agg (Ad r11)])], [B2], H13⟩ (yc (some 17) false false (⟨[E1, E6], [B2], H3⟩ : St) (Y5 H3 c12) (hr := (by generalize r8 = qp0; generalize r9 = qp1; cases qp0 <;> cases qp1 <;> kernel_rfl)) (hs := (by generalize r8 = qp0; generalize r9 = qp1; cases qp0 <;> cases qp1 <;> kernel_rfl))) ?_
 refine yr 11 ⟨[E1] ++ (L27 r8 r9) ++ [(15, .tup [vp r8, vp r9, .agg (arM .u32 16 r10.R_ ++ [(.top, .int .u32 r10.PC_), (.top, .int .u32 r10.EPC_), (.top, .int .u32 r10.Cause_), (.top, .int .i64 r10.State_), (.top, .int .i64 r10.Why_), (.top, .int .i64 r10.Steps_), (.top, .int .i64 r10.Taken_), (.top, .junk), (.top, .int .u32 r10.Entry_), (.top, .int .u32 r10.Vector_), (.top, .int .u32 r10.Guard_), (.top, .int .u32 r10.Limit_), ((.own 0), .sl 1 (List.map (eI .i32) r10.Input_))]), .agg (Ad r11)]), E6, (17, .tup [vp r8, vp r9, .agg (arM .u32 16 r10.R_ ++ [(.top, .int .u32 r10.PC_), (.top, .int .u32 r10.EPC_), (.top, .int .u32 r10.Cause_), (.top, .int .i64 r10.State_), (.top, .int .i64 r10.Why_), (.top, .int .i64 r10.Steps_), (.top, .int .i64 r10.Taken_), (.top, .junk), (.top, .int .u32 r10.Entry_), (.top, .int .u32 r10.Vector_), (.top, .int .u32 r10.Guard_), (.top, .int .u32 r10.Limit_), ((.own 0), .sl 1 (List.map (eI .i32) r10.Input_))]), .agg (Ad r11)]), (18, vp r8), (19, vp r9), (20, .agg (Ac r10)), (21, .agg (Ad r11))], [B2, B4, B5], H13⟩ ?_ (h := (by generalize r8 = qp0; generalize r9 = qp1; cases qp0 <;> cases qp1 <;> kernel_rfl))
 exact ye
 refine Ah ?_
 refine Ah ?_
 obtain ⟨w17, hB18, hF⟩ := Ab hF
 refine Bn (.take 0 (.take 1 (.take 2 (.take 3 (.take 5 (.take 6 (.last 4 (.take 7 (.take 8 .done))))))))) (by kernel_rfl) (⟨(L27 r8 r9) ++ [(30, vb w17)], [B4, B5], H13⟩ : St) ?_ ?_
 refine Ao ⟨(L30 r8 r9), [B2, B4, B5], H13⟩ (by generalize r8 = qp0; generalize r9 = qp1; cases qp0 <;> cases qp1 <;> kernel_rfl) ?_
 refine Ao ⟨(L30 r8 r9) ++ [(23, vb r8.isNil)], [B2, B4, B5], H13⟩ (Qk (⟨(L30 r8 r9), [B2, B4, B5], H13⟩ : St) (Ws (P := X.P) (ty := 102) (x := (.tmp 22)) (y := (.const (.pointer none))) (m := .top) (m' := .top) r8 (by generalize r8 = qp0; generalize r9 = qp1; cases qp0 <;> cases qp1 <;> kernel_rfl) (by generalize r8 = qp0; generalize r9 = qp1; cases qp0 <;> cases qp1 <;> kernel_rfl)) rfl (some 23) (by generalize r8 = qp0; generalize r9 = qp1; cases qp0 <;> cases qp1 <;> kernel_rfl) (by generalize r8 = qp0; generalize r9 = qp1; cases qp0 <;> cases qp1 <;> kernel_rfl)) ?_
 refine Ao ⟨(L30 r8 r9) ++ [(23, vb r8.isNil), (24, vb r8.isNil)], [B2, B4, B5], H13⟩ (by generalize r8 = qp0; generalize r9 = qp1; cases qp0 <;> cases qp1 <;> kernel_rfl) ?_
 rcases Af hB18 with ⟨h14, hB18⟩ | ⟨h14, hB18⟩
 refine Fe (congrArg (fun q => (⟨(L30 r8 r9) ++ [(23, vb q), (24, vb q)], [B2, B4, B5], H13⟩ : St)) h14) ?_
 refine Ao ⟨(L34 r8 r9), [B2, B4, B5], H13⟩ (by generalize r8 = qp0; generalize r9 = qp1; cases qp0 <;> cases qp1 <;> kernel_rfl) ?_
 refine Ao ⟨(L34 r8 r9) ++ [(27, vN)], [B2, B4, B5], H13⟩ (by generalize r8 = qp0; generalize r9 = qp1; cases qp0 <;> cases qp1 <;> kernel_rfl) ?_
 refine Ao ⟨(L34 r8 r9) ++ [(27, vN), (28, vN)], [B2, B4, B5], H13⟩ (by generalize r8 = qp0; generalize r9 = qp1; cases qp0 <;> cases qp1 <;> kernel_rfl) ?_
 refine Bo ⟨(L39 r8 r9), [B2, B4, B5], H13⟩ (by generalize r8 = qp0; generalize r9 = qp1; cases qp0 <;> cases qp1 <;> kernel_rfl) ?_
 refine Ao ⟨(L39 r8 r9) ++ [(29, vN)], [B2, B4, B5], H13⟩ (by generalize r8 = qp0; generalize r9 = qp1; cases qp0 <;> cases qp1 <;> kernel_rfl) ?_
 refine Ao ⟨(L39 r8 r9) ++ [(29, vN), (30, vT)], [B2, B4, B5], H13⟩ (by generalize r8 = qp0; generalize r9 = qp1; cases qp0 <;> cases qp1 <;> kernel_rfl) ?_
 cases hB18
 exact yde
 refine Fe (congrArg (fun q => (⟨(L30 r8 r9) ++ [(23, vb q), (24, vb q)], [B2, B4, B5], H13⟩ : St)) h14) ?_
 refine Ao ⟨(L33 r8 r9), [B2, B4, B5], H13⟩ (by generalize r8 = qp0; generalize r9 = qp1; cases qp0 <;> cases qp1 <;> kernel_rfl) ?_
 refine Ao ⟨(L33 r8 r9) ++ [E7], [B2, B4, B5], H13⟩ (by generalize r8 = qp0; generalize r9 = qp1; cases qp0 <;> cases qp1 <;> kernel_rfl) ?_
 refine Ao ⟨(L33 r8 r9) ++ [E7, E8], [B2, B4, B5], H13⟩ (by generalize r8 = qp0; generalize r9 = qp1; cases qp0 <;> cases qp1 <;> kernel_rfl) ?_
 obtain ⟨r15, c16, hB18⟩ := Ab hB18
 let E9 : EN := (29, vb (!(N7 r15 p0.S_)))
 let L37 : Ptr → Ptr → List EN := fun z0 z1 => (L33 z0 z1) ++ [(26, .agg (Dy r15)), E7, E8]
 refine Bo ⟨(L37 r8 r9), [B2, B4, B5], H13⟩ (yc (some 26) true false (⟨(L33 r8 r9) ++ [E7, E8], [B2, B4, B5], H13⟩ : St) (U7 H13 c16) (hr := (by generalize r8 = qp0; generalize r9 = qp1; cases qp0 <;> cases qp1 <;> kernel_rfl)) (hs := (by generalize r8 = qp0; generalize r9 = qp1; cases qp0 <;> cases qp1 <;> kernel_rfl))) ?_
 refine Ao ⟨(L37 r8 r9) ++ [E9], [B2, B4, B5], H13⟩ (Qk (⟨(L37 r8 r9), [B2, B4, B5], H13⟩ : St) (Wt (P := X.P) (ty := 94) (x := (.tmp 26)) (y := (.tmp 28)) (cs := [(.top, .int .u32 r15.Entry_), (.top, .int .u32 r15.Vector_), (.top, .int .u32 r15.Guard_), (.top, .int .u32 r15.Limit_)]) (ds := [(.top, .int .u32 p0.S_.Entry_), (.top, .int .u32 p0.S_.Vector_), (.top, .int .u32 p0.S_.Guard_), (.top, .int .u32 p0.S_.Limit_)]) (us := [.int .u32 r15.Entry_, .int .u32 r15.Vector_, .int .u32 r15.Guard_, .int .u32 r15.Limit_]) (vs := [.int .u32 p0.S_.Entry_, .int .u32 p0.S_.Vector_, .int .u32 p0.S_.Guard_, .int .u32 p0.S_.Limit_]) (qs := [r15.Entry_ == p0.S_.Entry_, r15.Vector_ == p0.S_.Vector_, r15.Guard_ == p0.S_.Guard_, r15.Limit_ == p0.S_.Limit_]) (by generalize r8 = qp0; generalize r9 = qp1; cases qp0 <;> cases qp1 <;> kernel_rfl) (by generalize r8 = qp0; generalize r9 = qp1; cases qp0 <;> cases qp1 <;> kernel_rfl) (by generalize r8 = qp0; generalize r9 = qp1; cases qp0 <;> cases qp1 <;> kernel_rfl) (by generalize r8 = qp0; generalize r9 = qp1; cases qp0 <;> cases qp1 <;> kernel_rfl)) rfl (some 29) (by generalize r8 = qp0; generalize r9 = qp1; cases qp0 <;> cases qp1 <;> kernel_rfl) (by generalize r8 = qp0; generalize r9 = qp1; cases qp0 <;> cases qp1 <;> kernel_rfl)) ?_
 refine Ao ⟨(L37 r8 r9) ++ [E9, (30, vb (!(N7 r15 p0.S_)))], [B2, B4, B5], H13⟩ (by generalize r8 = qp0; generalize r9 = qp1; cases qp0 <;> cases qp1 <;> kernel_rfl) ?_
 cases hB18
 exact yde
 rcases Af hF with ⟨h19, hF⟩ | ⟨h19, hF⟩
 refine yT h19 ⟨[], [], H13⟩ ?_
 refine ysg ⟨[(2, vF)], [], H13⟩ ?_
 refine As ?_
 obtain ⟨e0, e1⟩ := Ap hF
 subst e0
 subst e1
 exact yi (vF)
 refine yF h19 ⟨(L27 r8 r9), [B4, B5], H13⟩ ?_
 refine Am ?_
 refine Ah ?_
 refine ysg ⟨(L27 r8 r9) ++ [(7, vi 0)], [B4, B5], H13⟩ ?_ (h := (by generalize r8 = qp0; generalize r9 = qp1; cases qp0 <;> cases qp1 <;> kernel_rfl))
 refine Bs ?_
 obtain ⟨r37, hL38, hF⟩ := Ab hF
 refine Ql (fun (x : (Int × T_ref04_Cpu × T_ref03_Mem × Ai)) => (⟨(L27 r8 r9) ++ [(7, vi x.1)], [(5, (Ac x.2.1)), (6, (Ad x.2.2.1))], x.2.2.2⟩ : St)) (Sum.elim (fun (y : (T_ref03_Mem × Ai)) => ((.exit 0, (⟨[(E10 r9), E11], [(6, (Ad y.1))], y.2⟩ : St)) : Ex × St)) (fun (y : (Ai)) => ((.ret, (⟨[(2, vF)], [], y⟩ : St)) : Ex × St))) hL38 (by kernel_rfl) ?_ ?_
 rintro ⟨a20, a21, a22, H23⟩ o hF
 replace hF : C6 r8 r9 a20 a21 a22 H23 = some o := hF
 let B12 : EB := (5, (Ac a21))
 let B13 : EB := (6, (Ad a22))
 let E16 : EN := (36, .agg (Ac a21))
 let E17 : EN := (37, .agg (Ad a22))
 let L28 : Ptr → Ptr → List EN := fun z0 z1 => (L27 z0 z1) ++ [(7, vi a20)]
 let L29 : Ptr → Ptr → List EN := fun z0 z1 => (L28 z0 z1) ++ [(8, vl 8 0), (9, vl 9 0)]
 let L31 : Ptr → Ptr → List EN := fun z0 z1 => (L29 z0 z1) ++ [(41, vp z0), (42, vp z1)]
 unfold C6 at hF
 refine Ah ?_
 refine ysg ⟨(L28 r8 r9) ++ [(32, vb (decide (a20 < 60)))], [B12, B13], H23⟩ ?_ (h := (by generalize r8 = qp0; generalize r9 = qp1; cases qp0 <;> cases qp1 <;> kernel_rfl))
 rcases Af hF with ⟨h24, hF⟩ | ⟨h24, hF⟩
 refine yT h24 ⟨(L28 r8 r9), [B12, B13], H23⟩ ?_
 refine Am ?_
 refine Ah ?_
 refine Bs ?_
 refine Ah ?_
 obtain ⟨r25, r26, c27, hF⟩ := Bg hF
 let B14 : EB := (8, (Ac r25))
 let B15 : EB := (9, (Ad r26))
 let E18 : EN := (38, .tup [.agg (Ac r25), .agg (Ad r26)])
 let E20 : EN := (45, vi r25.State_)
 let B22 : EB := (5, (Ac r25))
 let B23 : EB := (6, (Ad r26))
 let E24 : EN := (53, .agg (Ac r25))
 let E25 : EN := (54, .agg (Ad r26))
 refine Ak ⟨(L29 r8 r9), [B12, B13, B14, B15], H23⟩ ?_ ?_
 refine yr 2 ⟨(L28 r8 r9) ++ [E16, E17], [B12, B13], H23⟩ ?_ (h := (by generalize r8 = qp0; generalize r9 = qp1; cases qp0 <;> cases qp1 <;> kernel_rfl))
 refine Aj ⟨(L28 r8 r9) ++ [E16, E17, E18], [B12, B13], H23⟩ (yc (some 38) true false (⟨(L28 r8 r9) ++ [E16, E17], [B12, B13], H23⟩ : St) (Zq H23 c27) (hr := (by generalize r8 = qp0; generalize r9 = qp1; cases qp0 <;> cases qp1 <;> kernel_rfl)) (hs := (by generalize r8 = qp0; generalize r9 = qp1; cases qp0 <;> cases qp1 <;> kernel_rfl))) ?_
 refine yr 7 ⟨(L29 r8 r9) ++ [(35, .tup [.agg (Ac r25), .agg (Ad r26)]), E16, E17, E18, (39, .agg (Ac r25)), (40, .agg (Ad r26))], [B12, B13, B14, B15], H23⟩ ?_ (h := (by generalize r8 = qp0; generalize r9 = qp1; cases qp0 <;> cases qp1 <;> kernel_rfl))
 exact ye
 refine Ah ?_
 refine Ah ?_
 obtain ⟨H30, r28, c29, hF⟩ := Bg hF
 let E21 : EN := (46, vb (r28 != r25.State_))
 let L32 : Ptr → Ptr → List EN := fun z0 z1 => (L31 z0 z1) ++ [(43, vi r28), E19, E20]
 let L35 : Ptr → Ptr → List EN := fun z0 z1 => (L32 z0 z1) ++ [(46, vF), (47, vF), (48, vp z0), (49, .agg (Ac r25))]
 let L36 : Ptr → Ptr → List EN := fun z0 z1 => (L32 z0 z1) ++ [(46, vT), (47, vT), (48, vN)]
 obtain ⟨w34, hB35, hF⟩ := Ab hF
 refine Bn (.take 0 (.take 1 (.take 3 (.take 4 (.last 2 (.take 5 (.take 6 (.take 7 (.take 8 (.last 9 (.take 10 (.take 11 .done)))))))))))) (by kernel_rfl) (⟨(L29 r8 r9) ++ [(52, vb w34)], [B12, B13, B14, B15], H30⟩ : St) ?_ ?_
 refine Ao ⟨(L29 r8 r9) ++ [(41, vp r8)], [B12, B13, B14, B15], H23⟩ (by generalize r8 = qp0; generalize r9 = qp1; cases qp0 <;> cases qp1 <;> kernel_rfl) ?_
 refine Ao ⟨(L31 r8 r9), [B12, B13, B14, B15], H23⟩ (by generalize r8 = qp0; generalize r9 = qp1; cases qp0 <;> cases qp1 <;> kernel_rfl) ?_
 refine Ao ⟨(L31 r8 r9) ++ [E19], [B12, B13, B14, B15], H23⟩ (by generalize r8 = qp0; generalize r9 = qp1; cases qp0 <;> cases qp1 <;> kernel_rfl) ?_
 refine Ao ⟨(L31 r8 r9) ++ [E19, E20], [B12, B13, B14, B15], H23⟩ (by generalize r8 = qp0; generalize r9 = qp1; cases qp0 <;> cases qp1 <;> kernel_rfl) ?_
 refine Bo ⟨(L32 r8 r9), [B12, B13, B14, B15], H30⟩ (yc (some 43) false false (⟨(L31 r8 r9) ++ [E19, E20], [B12, B13, B14, B15], H23⟩ : St) (Qx H23 c29) (hr := (by generalize r8 = qp0; generalize r9 = qp1; cases qp0 <;> cases qp1 <;> kernel_rfl)) (hs := (by generalize r8 = qp0; generalize r9 = qp1; cases qp0 <;> cases qp1 <;> kernel_rfl))) ?_
 refine Ao ⟨(L32 r8 r9) ++ [E21], [B12, B13, B14, B15], H30⟩ (by generalize r8 = qp0; generalize r9 = qp1; cases qp0 <;> cases qp1 <;> kernel_rfl) ?_
 refine Ao ⟨(L32 r8 r9) ++ [E21, (47, vb (r28 != r25.State_))], [B12, B13, B14, B15], H30⟩ (by generalize r8 = qp0; generalize r9 = qp1; cases qp0 <;> cases qp1 <;> kernel_rfl) ?_
 rcases Af hB35 with ⟨h31, hB35⟩ | ⟨h31, hB35⟩
 refine Fe (congrArg (fun q => (⟨(L32 r8 r9) ++ [(46, vb q), (47, vb q)], [B12, B13, B14, B15], H30⟩ : St)) h31) ?_
 refine Ao ⟨(L36 r8 r9), [B12, B13, B14, B15], H30⟩ (by generalize r8 = qp0; generalize r9 = qp1; cases qp0 <;> cases qp1 <;> kernel_rfl) ?_
 refine Ao ⟨(L36 r8 r9) ++ [(49, vN)], [B12, B13, B14, B15], H30⟩ (by generalize r8 = qp0; generalize r9 = qp1; cases qp0 <;> cases qp1 <;> kernel_rfl) ?_
 refine Bo ⟨(L36 r8 r9) ++ [(49, vN), (50, vN)], [B12, B13, B14, B15], H30⟩ (by generalize r8 = qp0; generalize r9 = qp1; cases qp0 <;> cases qp1 <;> kernel_rfl) ?_
 refine Ao ⟨(L36 r8 r9) ++ [(49, vN), (50, vN), (51, vN)], [B12, B13, B14, B15], H30⟩ (by generalize r8 = qp0; generalize r9 = qp1; cases qp0 <;> cases qp1 <;> kernel_rfl) ?_
 refine Ao ⟨(L36 r8 r9) ++ [(49, vN), (50, vN), (51, vN), (52, vT)], [B12, B13, B14, B15], H30⟩ (by generalize r8 = qp0; generalize r9 = qp1; cases qp0 <;> cases qp1 <;> kernel_rfl) ?_
 cases hB35
 exact yde
 refine Fe (congrArg (fun q => (⟨(L32 r8 r9) ++ [(46, vb q), (47, vb q)], [B12, B13, B14, B15], H30⟩ : St)) h31) ?_
 refine Ao ⟨(L32 r8 r9) ++ [(46, vF), (47, vF), (48, vp r8)], [B12, B13, B14, B15], H30⟩ (by generalize r8 = qp0; generalize r9 = qp1; cases qp0 <;> cases qp1 <;> kernel_rfl) ?_
 refine Ao ⟨(L35 r8 r9), [B12, B13, B14, B15], H30⟩ (by generalize r8 = qp0; generalize r9 = qp1; cases qp0 <;> cases qp1 <;> kernel_rfl) ?_
 obtain ⟨r32, c33, hB35⟩ := Ab hB35
 refine Bo ⟨(L35 r8 r9) ++ [(50, vb r32)], [B12, B13, B14, B15], H30⟩ (yc (some 50) true false (⟨(L35 r8 r9), [B12, B13, B14, B15], H30⟩ : St) (Zr H30 c33) (hr := (by generalize r8 = qp0; generalize r9 = qp1; cases qp0 <;> cases qp1 <;> kernel_rfl)) (hs := (by generalize r8 = qp0; generalize r9 = qp1; cases qp0 <;> cases qp1 <;> kernel_rfl))) ?_
 refine Ao ⟨(L35 r8 r9) ++ [(50, vb r32), (51, vb (!r32))], [B12, B13, B14, B15], H30⟩ (by generalize r8 = qp0; generalize r9 = qp1; cases qp0 <;> cases qp1 <;> kernel_rfl) ?_
 refine Ao ⟨(L35 r8 r9) ++ [(50, vb r32), (51, vb (!r32)), (52, vb (!r32))], [B12, B13, B14, B15], H30⟩ (by generalize r8 = qp0; generalize r9 = qp1; cases qp0 <;> cases qp1 <;> kernel_rfl) ?_
 cases hB35
 exact yde
 rcases Af hF with ⟨h36, hF⟩ | ⟨h36, hF⟩
 refine yT h36 ⟨[], [], H30⟩ ?_
 refine ysg ⟨[(2, vF)], [], H30⟩ ?_
 refine As ?_
 cases hF
 exact ⟨_, rfl, (by kernel_rfl)⟩
 refine yF h36 ⟨(L29 r8 r9), [B12, B13, B14, B15], H30⟩ ?_
 refine Am ?_
 refine Bn (.take 0 (.take 1 (.last 2 (.last 3 .done)))) (by kernel_rfl) (⟨(L28 r8 r9), [B22, B23], H30⟩ : St) ?_ ?_
 refine Ao ⟨(L29 r8 r9) ++ [E24], [B12, B13, B14, B15], H30⟩ (by generalize r8 = qp0; generalize r9 = qp1; cases qp0 <;> cases qp1 <;> kernel_rfl) ?_
 refine Ao ⟨(L29 r8 r9) ++ [E24, E25], [B12, B13, B14, B15], H30⟩ (by generalize r8 = qp0; generalize r9 = qp1; cases qp0 <;> cases qp1 <;> kernel_rfl) ?_
 refine Bo ⟨(L29 r8 r9) ++ [E24, E25], [B22, B13, B14, B15], H30⟩ (by generalize r8 = qp0; generalize r9 = qp1; cases qp0 <;> cases qp1 <;> kernel_rfl) ?_
 refine Bo ⟨(L29 r8 r9) ++ [E24, E25], [B22, B23, B14, B15], H30⟩ (by generalize r8 = qp0; generalize r9 = qp1; cases qp0 <;> cases qp1 <;> kernel_rfl) ?_
 exact yde
 refine Yv ⟨(L27 r8 r9) ++ [(7, vi (IntKind.wrap .i64 (a20 + 1)))], [B22, B23], H30⟩ (by generalize r8 = qp0; generalize r9 = qp1; cases qp0 <;> cases qp1 <;> kernel_rfl) ?_
 cases hF
 exact ⟨_, rfl, (by kernel_rfl)⟩
 refine yF h24 ⟨[(E10 r9), E11], [B13], H23⟩ ?_
 refine Pg ?_
 cases hF
 exact ⟨_, rfl, (by kernel_rfl)⟩
 rcases Rl hF with ⟨r37', rfl, hF⟩ | ⟨r37', rfl, hF⟩
 obtain ⟨b39, H40⟩ := r37'
 replace hF := lQ hF
 let B26 : EB := (6, (Ad b39))
 let L38 : Ptr → List EN := fun z0 => [(E10 z0), E11, (55, vp z0), (56, .agg (Ad b39))]
 refine bQ (i := 0) (s := (⟨[(E10 r9), E11], [B26], H40⟩ : St)) (by kernel_rfl) ?_
 refine Qj ?_
 refine Ah ?_
 obtain ⟨r41, c42, hF⟩ := Ab hF
 refine Ak ⟨[(2, vb r41)], [], H40⟩ ?_ ?_
 refine yr 2 ⟨(L38 r9), [B26], H40⟩ ?_ (h := (by generalize r9 = qp0; cases qp0 <;> kernel_rfl))
 refine Aj ⟨(L38 r9) ++ [(57, vb r41)], [B26], H40⟩ (yc (some 57) true false (⟨(L38 r9), [B26], H40⟩ : St) (Zs H40 c42) (hr := (by generalize r9 = qp0; cases qp0 <;> kernel_rfl)) (hs := (by generalize r9 = qp0; cases qp0 <;> kernel_rfl))) ?_
 refine yr 1 ⟨[(2, vb r41)] ++ (L38 r9) ++ [(57, vb r41)], [B26], H40⟩ ?_ (h := (by generalize r9 = qp0; cases qp0 <;> kernel_rfl))
 exact ye
 refine As ?_
 obtain ⟨e0, e1⟩ := Ap hF
 subst e0
 subst e1
 exact yi (vb r41)
 obtain ⟨H43, hy⟩ : ∃ y, y = r37' := ⟨_, rfl⟩
 subst hy
 refine lT (s := (⟨[(2, vF)], [], H43⟩ : St)) (by kernel_rfl) ?_
 obtain ⟨e0, e1⟩ := Ap hF
 subst e0
 subst e1
 exact yi (vF)
end Go.Proofs.Abs
