/- The law CpuParts: whatever the input, it answers true. No conditions. (Part CpuPartsF2 of its proof.) -/
import Derived.Test.YtjheniapmdcelaaCpuPartsF1
set_option linter.unusedVariables false
set_option linter.unusedSimpArgs false
set_option linter.unusedSectionVars false
/- Printed by gen (walk.py). -/
namespace Go.Proofs.Abs
open Go Go.Proofs
set_option linter.unusedVariables false
set_option maxRecDepth 100000
set_option maxHeartbeats 0
noncomputable def law04_begun (H : Heap) (p0 : T_law04_Case) : Option (Heap × Ptr × Ptr × T_ref04_Cpu × T_ref03_Mem) :=
  bind1 (law03_Ends p0.L_) fun r1 =>
  bind1 (ref03_New r1) fun r3 =>
  bind3 (memory_New H p0.L_) fun H8 r5 r6 =>
  bind2 (cpu_New H8 p0.S_ p0.Input_) fun H11 r9 =>
  if ((r6 != 0) || (r5.isNil || r9.isNil)) = true then (some (H11, Ptr.nil, Ptr.nil, (T_ref04_Cpu.mk p0.R_ p0.S_.Entry_ 0 0 0 0 0 0 ([] : List T_api_Event) p0.S_.Entry_ p0.S_.Vector_ p0.S_.Guard_ p0.S_.Limit_ p0.Input_), r3))
  else (bind1 (cut p0.Words_ 0 (if (r3.W_.length : Int) < (p0.Words_.length : Int) then (r3.W_.length : Int) else (p0.Words_.length : Int))) fun v15 =>
  bind2 (memory_Mem_Fill H11 r5 0 v15) fun H19 r17 =>
  bind2 (ref03_Fill r3 0 v15) fun r20 r21 =>
  (r9).bnd fun i23 o24 =>
  bind1 (get_cpu_Cpu H19 i23 o24) fun x26 =>
  bnd (set_cpu_Cpu H19 i23 o24 (T_cpu_Cpu.mk p0.R_ x26.PC_ x26.EPC_ x26.Cause_ x26.State_ x26.Why_ x26.Steps_ x26.Taken_ x26.Out_ x26.setup_ x26.input_)) fun H28 =>
  some (H28, (Ptr.at i23 o24), r5, (T_ref04_Cpu.mk p0.R_ p0.S_.Entry_ 0 0 0 0 0 0 ([] : List T_api_Event) p0.S_.Entry_ p0.S_.Vector_ p0.S_.Guard_ p0.S_.Limit_ p0.Input_), r20))
theorem ok_law04_begun (H : Heap) {p0 : T_law04_Case} {ra : Ptr} {rb : Ptr} {rc : T_ref04_Cpu} {rd : T_ref03_Mem} {Hr : Heap} (hF : law04_begun H p0 = some (Hr, ra, rb, rc, rd)) : evS X 55 [.agg (m0_law04_Case p0)] H = some (.tup [.one .top (Ptr.av ra), .one .top (Ptr.av rb), .agg (m0_ref04_Cpu rc), .agg (m0_ref03_Mem rd)], Hr) := by
 let E2 : EN := (1, vl 1 0)
 let B3 : EB := (1, (m0_law04_Case p0))
 let B4 : EB := (4, (List.replicate 19 (.top, .int .u32 0) ++ List.replicate 4 (.top, .int .i64 0) ++ [((.own 1), .sl 2 (List.map e_api_Event ([] : List T_api_Event)))] ++ List.replicate 4 (.top, .int .u32 0) ++ [((.own 1), .sl 1 (List.map (eI .i32) ([] : List Int)))]))
 let B5 : EB := (5, (List.replicate 5 (.top, .int .u32 0) ++ [((.own 1), .sl 1 (List.map (eI .u32) ([] : List Int)))]))
 let B6 : EB := (6, (arM .u32 16 p0.R_ ++ [(.top, .int .u32 p0.S_.Entry_), (.top, .int .u32 0), (.top, .int .u32 0)] ++ List.replicate 4 (.top, .int .i64 0) ++ [((.own 1), .sl 2 (List.map e_api_Event ([] : List T_api_Event))), (.top, .int .u32 p0.S_.Entry_), (.top, .int .u32 p0.S_.Vector_), (.top, .int .u32 p0.S_.Guard_), (.top, .int .u32 p0.S_.Limit_), ((.own 0), .sl 1 (List.map (eI .i32) p0.Input_))]))
 let E10 : EN := (33, .agg [(.top, .int .u32 p0.L_.Code_), (.top, .int .u32 p0.L_.Tables_), (.top, .int .u32 p0.L_.Data_), (.top, .int .u32 p0.L_.Heap_), (.top, .int .u32 p0.L_.Stack_)])
 let E12 : EN := (38, .agg [(.top, .int .u32 p0.L_.Code_), (.top, .int .u32 p0.L_.Tables_), (.top, .int .u32 p0.L_.Data_), (.top, .int .u32 p0.L_.Heap_), (.top, .int .u32 p0.L_.Stack_)])
 let E14 : EN := (2, .one .top .nilp)
 let E15 : EN := (3, .one .top .nilp)
 let B16 : EB := (4, (arM .u32 16 p0.R_ ++ [(.top, .int .u32 p0.S_.Entry_), (.top, .int .u32 0), (.top, .int .u32 0)] ++ List.replicate 4 (.top, .int .i64 0) ++ [((.own 1), .sl 2 (List.map e_api_Event ([] : List T_api_Event))), (.top, .int .u32 p0.S_.Entry_), (.top, .int .u32 p0.S_.Vector_), (.top, .int .u32 p0.S_.Guard_), (.top, .int .u32 p0.S_.Limit_), ((.own 0), .sl 1 (List.map (eI .i32) p0.Input_))]))
 let E17 : EN := (57, .agg (arM .u32 16 p0.R_ ++ [(.top, .int .u32 p0.S_.Entry_), (.top, .int .u32 0), (.top, .int .u32 0)] ++ List.replicate 4 (.top, .int .i64 0) ++ [((.own 1), .sl 2 (List.map e_api_Event ([] : List T_api_Event))), (.top, .int .u32 p0.S_.Entry_), (.top, .int .u32 p0.S_.Vector_), (.top, .int .u32 p0.S_.Guard_), (.top, .int .u32 p0.S_.Limit_), ((.own 0), .sl 1 (List.map (eI .i32) p0.Input_))]))
 let B18 : EB := (6, (arM .u32 16 p0.R_ ++ [(.top, .int .u32 p0.S_.Entry_), (.top, .int .u32 0), (.top, .int .u32 0)] ++ List.replicate 4 (.top, .int .i64 0) ++ [(.top, .junk), (.top, .int .u32 p0.S_.Entry_), (.top, .int .u32 p0.S_.Vector_), (.top, .int .u32 p0.S_.Guard_), (.top, .int .u32 p0.S_.Limit_), ((.own 0), .sl 1 (List.map (eI .i32) p0.Input_))]))
 let E20 : EN := (57, .agg (arM .u32 16 p0.R_ ++ [(.top, .int .u32 p0.S_.Entry_), (.top, .int .u32 0), (.top, .int .u32 0)] ++ List.replicate 4 (.top, .int .i64 0) ++ [(.top, .junk), (.top, .int .u32 p0.S_.Entry_), (.top, .int .u32 p0.S_.Vector_), (.top, .int .u32 p0.S_.Guard_), (.top, .int .u32 p0.S_.Limit_), ((.own 0), .sl 1 (List.map (eI .i32) p0.Input_))]))
 let E21 : EN := (63, vi (p0.Words_.length : Int))
 let E32 : EN := (80, .agg (arM .u32 16 p0.R_))
 let E35 : EN := (85, .agg (arM .u32 16 p0.R_ ++ [(.top, .int .u32 p0.S_.Entry_), (.top, .int .u32 0), (.top, .int .u32 0)] ++ List.replicate 4 (.top, .int .i64 0) ++ [((.own 1), .sl 2 (List.map e_api_Event ([] : List T_api_Event))), (.top, .int .u32 p0.S_.Entry_), (.top, .int .u32 p0.S_.Vector_), (.top, .int .u32 p0.S_.Guard_), (.top, .int .u32 p0.S_.Limit_), ((.own 0), .sl 1 (List.map (eI .i32) p0.Input_))]))
 let E37 : EN := (85, .agg (arM .u32 16 p0.R_ ++ [(.top, .int .u32 p0.S_.Entry_), (.top, .int .u32 0), (.top, .int .u32 0)] ++ List.replicate 4 (.top, .int .i64 0) ++ [(.top, .junk), (.top, .int .u32 p0.S_.Entry_), (.top, .int .u32 p0.S_.Vector_), (.top, .int .u32 p0.S_.Guard_), (.top, .int .u32 p0.S_.Limit_), ((.own 0), .sl 1 (List.map (eI .i32) p0.Input_))]))
 let L38 : List EN := [(4, vl 4 0), (5, vl 5 0)]
 let L39 : List EN := L38 ++ [(6, vl 6 0), (7, vl 7 0)]
 let L44 : List EN := [(59, vl 1 9), (60, .one (.own 0) (.sl 1 (List.map (eI .u32) p0.Words_))), (61, vl 1 9), (62, .one (.own 0) (.sl 1 (List.map (eI .u32) p0.Words_)))]
 let L49 : List EN := [E2] ++ L38 ++ [(6, vl 6 0), (32, vl 1 0), E10]
 let L52 : List EN := [(42, vl 1 5), (43, .agg [(.top, .int .u32 p0.S_.Entry_), (.top, .int .u32 p0.S_.Vector_), (.top, .int .u32 p0.S_.Guard_), (.top, .int .u32 p0.S_.Limit_)]), (44, vl 1 26), (45, .one (.own 0) (.sl 1 (List.map (eI .i32) p0.Input_)))]
 let L54 : List EN := [E2] ++ L39 ++ [(37, vl 1 0), E12]
 refine yf Try.func55 false ⟨[(0, .agg (m0_law04_Case p0))], [], H⟩ ?_
 unfold law04_begun at hF
 refine ysg ⟨[E2] ++ L38, [B3, B4, B5], H⟩ ?_
 refine ysg ⟨[E2] ++ L38 ++ [(6, vl 6 0)], [B3, B4, B5, B6], H⟩ ?_
 refine w_seq ?_
 obtain ⟨r1, c2, hF⟩ := bind1_inv hF
 let E8 : EN := (34, .agg (arM .u32 5 r1))
 obtain ⟨r3, c4, hF⟩ := bind1_inv hF
 let B7 : EB := (7, (m0_ref03_Mem r3))
 let E9 : EN := (35, .agg (m0_ref03_Mem r3))
 let E19 : EN := (58, .agg (m0_ref03_Mem r3))
 let E22 : EN := (66, vi (r3.W_.length : Int))
 let E24 : EN := (65, .one (.own 0) (.sl 1 (List.map (eI .u32) r3.W_)))
 let E25 : EN := (67, vi (if (r3.W_.length : Int) < (p0.Words_.length : Int) then (r3.W_.length : Int) else (p0.Words_.length : Int)))
 let E28 : EN := (73, .agg (m0_ref03_Mem r3))
 refine w_regO ⟨[E2] ++ L39, [B3, B4, B5, B6, B7], H⟩ ?_ ?_
 refine yr 2 ⟨L49, [B3, B4, B5, B6], H⟩ ?_
 refine o_one ⟨L49 ++ [E8], [B3, B4, B5, B6], H⟩ (yc (some 34) true false (⟨L49, [B3, B4, B5, B6], H⟩ : St) (ok_law03_Ends H c2)) ?_
 refine o_one ⟨L49 ++ [E8, E9], [B3, B4, B5, B6], H⟩ (yc (some 35) true false (⟨L49 ++ [E8], [B3, B4, B5, B6], H⟩ : St) (ok_ref03_New H c4)) ?_
 refine yr 2 ⟨[E2] ++ L39 ++ [(32, vl 1 0), E10, E8, E9], [B3, B4, B5, B6, B7], H⟩ ?_
 exact ye
 refine w_seq ?_
 obtain ⟨H8, r5, r6, c7, hF⟩ := bind3_inv hF
 let E11 : Ptr → EN := fun z0 => (39, .tup [vp z0, vi r6])
 let L40 : Ptr → List EN := fun z0 => [E2] ++ L39 ++ [(8, vp z0)]
 let L42 : Ptr → List EN := fun z0 => (L40 z0) ++ [(9, vi r6)]
 refine w_regO ⟨(L42 r5), [B3, B4, B5, B6, B7], H8⟩ ?_ ?_
 refine yr 2 ⟨L54, [B3, B4, B5, B6, B7], H⟩ ?_
 refine o_one ⟨L54 ++ [(E11 r5)], [B3, B4, B5, B6, B7], H8⟩ (yc (some 39) false false (⟨L54, [B3, B4, B5, B6, B7], H⟩ : St) (ok_memory_New H c7) (hr := (by generalize r5 = qp0; cases qp0 <;> kernel_rfl)) (hs := (by generalize r5 = qp0; cases qp0 <;> kernel_rfl))) ?_
 refine yr 5 ⟨(L42 r5) ++ [(36, .tup [vp r5, vi r6]), (37, vl 1 0), E12, (E11 r5), (40, vp r5), (41, vi r6)], [B3, B4, B5, B6, B7], H8⟩ ?_ (h := (by generalize r5 = qp0; cases qp0 <;> kernel_rfl))
 exact ye
 refine w_seq ?_
 obtain ⟨H11, r9, c10, hF⟩ := bind2_inv hF
 let E13 : Ptr → EN := fun z0 => (10, vp z0)
 let L41 : Ptr → Ptr → List EN := fun z0 z1 => (L40 z0) ++ [(E13 z1)]
 let L43 : Ptr → Ptr → List EN := fun z0 z1 => (L42 z0) ++ [(E13 z1), (47, vi r6)]
 let L45 : Ptr → Ptr → List EN := fun z0 z1 => (L43 z0 z1) ++ [(48, vF), (49, vF), (50, vp z0)]
 let L47 : Ptr → Ptr → List EN := fun z0 z1 => (L41 z0 z1) ++ L44 ++ [E21, (64, vl 7 5), E24]
 let L51 : Ptr → Ptr → List EN := fun z0 z1 => (L47 z0 z1) ++ [E22, E25]
 let L53 : Ptr → Ptr → List EN := fun z0 z1 => (L45 z0 z1) ++ [(51, vF), (52, vF), (53, vF), (54, vp z1)]
 refine w_regO ⟨(L42 r5) ++ [(E13 r9)], [B3, B4, B5, B6, B7], H11⟩ ?_ ?_
 refine yr 4 ⟨(L42 r5) ++ L52, [B3, B4, B5, B6, B7], H8⟩ ?_ (h := (by generalize r5 = qp0; cases qp0 <;> kernel_rfl))
 refine o_one ⟨(L42 r5) ++ L52 ++ [(46, vp r9)], [B3, B4, B5, B6, B7], H11⟩ (yc (some 46) false false (⟨(L42 r5) ++ L52, [B3, B4, B5, B6, B7], H8⟩ : St) (ok_cpu_New_2 H8 c10) (hr := (by generalize r5 = qp0; generalize r9 = qp1; cases qp0 <;> cases qp1 <;> kernel_rfl)) (hs := (by generalize r5 = qp0; generalize r9 = qp1; cases qp0 <;> cases qp1 <;> kernel_rfl))) ?_
 refine yr 1 ⟨(L42 r5) ++ [(E13 r9)] ++ L52 ++ [(46, vp r9)], [B3, B4, B5, B6, B7], H11⟩ ?_ (h := (by generalize r5 = qp0; generalize r9 = qp1; cases qp0 <;> cases qp1 <;> kernel_rfl))
 exact ye
 refine w_seq ?_
 refine yso ⟨(L41 r5 r9) ++ [(56, vb ((r6 != 0) || (r5.isNil || r9.isNil)))], [B3, B4, B5, B6, B7], H11⟩ ?_ ?_
 refine yr 3 ⟨(L43 r5 r9) ++ [(48, vb (r6 != 0)), (49, vb (r6 != 0))], [B3, B4, B5, B6, B7], H11⟩ ?_ (h := (by generalize r5 = qp0; generalize r9 = qp1; cases qp0 <;> cases qp1 <;> kernel_rfl))
 rcases bool_cases (r6 != 0) with h12 | h12
 refine o_eq (congrArg (fun q => (⟨(L43 r5 r9) ++ [(48, vb q), (49, vb q)], [B3, B4, B5, B6, B7], H11⟩ : St)) h12) ?_
 refine yr 7 ⟨(L43 r5 r9) ++ [(48, vT), (49, vT), (50, vN), (51, vN), (52, vT), (53, vT), (54, vN), (55, vN), (56, vT)], [B3, B4, B5, B6, B7], H11⟩ ?_ (h := (by generalize r5 = qp0; generalize r9 = qp1; cases qp0 <;> cases qp1 <;> kernel_rfl))
 refine o_eq2 (congrArg (fun q0 => (⟨(L41 r5 r9) ++ [(56, vb q0)], [B3, B4, B5, B6, B7], H11⟩ : St)) (show true = ((r6 != 0) || (r5.isNil || r9.isNil)) by simp [h12])) ?_
 exact ye
 refine o_eq (congrArg (fun q => (⟨(L43 r5 r9) ++ [(48, vb q), (49, vb q)], [B3, B4, B5, B6, B7], H11⟩ : St)) h12) ?_
 refine yr 1 ⟨(L45 r5 r9), [B3, B4, B5, B6, B7], H11⟩ ?_ (h := (by generalize r5 = qp0; generalize r9 = qp1; cases qp0 <;> cases qp1 <;> kernel_rfl))
 refine o_one ⟨(L45 r5 r9) ++ [(51, vb r5.isNil)], [B3, B4, B5, B6, B7], H11⟩ (st_bin (⟨(L45 r5 r9), [B3, B4, B5, B6, B7], H11⟩ : St) (nil_eql (P := X.P) (ty := 103) (x := (.tmp 50)) (y := (.const (.pointer none))) (m := .top) (m' := .top) r5 (by generalize r5 = qp0; generalize r9 = qp1; cases qp0 <;> cases qp1 <;> kernel_rfl) (by generalize r5 = qp0; generalize r9 = qp1; cases qp0 <;> cases qp1 <;> kernel_rfl)) rfl (some 51) (by generalize r5 = qp0; generalize r9 = qp1; cases qp0 <;> cases qp1 <;> kernel_rfl) (by generalize r5 = qp0; generalize r9 = qp1; cases qp0 <;> cases qp1 <;> kernel_rfl)) ?_
 refine yr 2 ⟨(L45 r5 r9) ++ [(51, vb r5.isNil), (52, vb r5.isNil), (53, vb r5.isNil)], [B3, B4, B5, B6, B7], H11⟩ ?_ (h := (by generalize r5 = qp0; generalize r9 = qp1; cases qp0 <;> cases qp1 <;> kernel_rfl))
 rcases bool_cases r5.isNil with h13 | h13
 refine o_eq (congrArg (fun q => (⟨(L45 r5 r9) ++ [(51, vb q), (52, vb q), (53, vb q)], [B3, B4, B5, B6, B7], H11⟩ : St)) h13) ?_
 refine yr 3 ⟨(L45 r5 r9) ++ [(51, vT), (52, vT), (53, vT), (54, vN), (55, vN), (56, vT)], [B3, B4, B5, B6, B7], H11⟩ ?_ (h := (by generalize r5 = qp0; generalize r9 = qp1; cases qp0 <;> cases qp1 <;> kernel_rfl))
 refine o_eq2 (congrArg (fun q0 => (⟨(L41 r5 r9) ++ [(56, vb q0)], [B3, B4, B5, B6, B7], H11⟩ : St)) (show true = ((r6 != 0) || (r5.isNil || r9.isNil)) by simp [h12, h13])) ?_
 exact ye
 refine o_eq (congrArg (fun q => (⟨(L45 r5 r9) ++ [(51, vb q), (52, vb q), (53, vb q)], [B3, B4, B5, B6, B7], H11⟩ : St)) h13) ?_
 refine yr 1 ⟨(L53 r5 r9), [B3, B4, B5, B6, B7], H11⟩ ?_ (h := (by generalize r5 = qp0; generalize r9 = qp1; cases qp0 <;> cases qp1 <;> kernel_rfl))
 refine o_one ⟨(L53 r5 r9) ++ [(55, vb r9.isNil)], [B3, B4, B5, B6, B7], H11⟩ (st_bin (⟨(L53 r5 r9), [B3, B4, B5, B6, B7], H11⟩ : St) (nil_eql (P := X.P) (ty := 102) (x := (.tmp 54)) (y := (.const (.pointer none))) (m := .top) (m' := .top) r9 (by generalize r5 = qp0; generalize r9 = qp1; cases qp0 <;> cases qp1 <;> kernel_rfl) (by generalize r5 = qp0; generalize r9 = qp1; cases qp0 <;> cases qp1 <;> kernel_rfl)) rfl (some 55) (by generalize r5 = qp0; generalize r9 = qp1; cases qp0 <;> cases qp1 <;> kernel_rfl) (by generalize r5 = qp0; generalize r9 = qp1; cases qp0 <;> cases qp1 <;> kernel_rfl)) ?_
 refine yr 1 ⟨(L53 r5 r9) ++ [(55, vb r9.isNil), (56, vb r9.isNil)], [B3, B4, B5, B6, B7], H11⟩ ?_ (h := (by generalize r5 = qp0; generalize r9 = qp1; cases qp0 <;> cases qp1 <;> kernel_rfl))
 refine o_eq2 (congrArg (fun q0 => (⟨(L41 r5 r9) ++ [(56, vb q0)], [B3, B4, B5, B6, B7], H11⟩ : St)) (show r9.isNil = ((r6 != 0) || (r5.isNil || r9.isNil)) by simp [h12, h13])) ?_
 exact ye
 rcases if_inv hF with ⟨h14, hF⟩ | ⟨h14, hF⟩
 refine yT h14 ⟨L39, [B4, B5, B6, B7], H11⟩ ?_
 refine w_seq ?_
 refine w_regD (.take 0 (.take 1 (.take 2 (.take 3 (.last 4 (.last 5 .done)))))) (by kernel_rfl) (⟨[E14, E15] ++ L38, [B16, (5, (m0_ref03_Mem r3))], H11⟩ : St) ?_ ?_
 refine ydk 4 ⟨[E14, E15] ++ L39 ++ [E17, E19], [B4, B5, B18, B7], H11⟩ ?_
 refine ydl ⟨[E14, E15] ++ L39 ++ [E20, E19], [B16, B5, B18, B7], H11⟩ ?_
 refine ydl ⟨[E14, E15] ++ L39 ++ [E20, E19], [B16, (5, (m0_ref03_Mem r3)), B18, B7], H11⟩ ?_
 exact yde
 refine w_ret ?_
 obtain ⟨e0, e1, e2, e3, e4⟩ := some5_inv hF
 subst e0
 subst e1
 subst e2
 subst e3
 subst e4
 exact yi (.tup [.one .top .nilp, .one .top .nilp, .agg (arM .u32 16 p0.R_ ++ [(.top, .int .u32 p0.S_.Entry_), (.top, .int .u32 0), (.top, .int .u32 0)] ++ List.replicate 4 (.top, .int .i64 0) ++ [((.own 1), .sl 2 (List.map e_api_Event ([] : List T_api_Event))), (.top, .int .u32 p0.S_.Entry_), (.top, .int .u32 p0.S_.Vector_), (.top, .int .u32 p0.S_.Guard_), (.top, .int .u32 p0.S_.Limit_), ((.own 0), .sl 1 (List.map (eI .i32) p0.Input_))]), .agg (m0_ref03_Mem r3)])
 refine yF h14 ⟨(L41 r5 r9), [B3, B4, B5, B6, B7], H11⟩ ?_
 refine w_skip ?_
 refine w_seq ?_
 obtain ⟨v15, h16, hF⟩ := bind1_inv hF
 let E23 : EN := (68, .one (.own 0) (.sl 1 (List.map (eI .u32) v15)))
 let E26 : EN := (70, .one (.own 0) (.sl 1 (List.map (eI .u32) v15)))
 let E29 : EN := (74, .one (.own 0) (.sl 1 (List.map (eI .u32) v15)))
 let L46 : Ptr → Ptr → List EN := fun z0 z1 => (L41 z0 z1) ++ [(11, .one (.own 0) (.sl 1 (List.map (eI .u32) v15)))]
 refine w_regO ⟨(L46 r5 r9), [B3, B4, B5, B6, B7], H11⟩ ?_ ?_
 refine yr 4 ⟨(L41 r5 r9) ++ L44, [B3, B4, B5, B6, B7], H11⟩ ?_ (h := (by generalize r5 = qp0; generalize r9 = qp1; cases qp0 <;> cases qp1 <;> kernel_rfl))
 refine o_one ⟨(L41 r5 r9) ++ L44 ++ [E21], [B3, B4, B5, B6, B7], H11⟩ (st_len (⟨(L41 r5 r9) ++ L44, [B3, B4, B5, B6, B7], H11⟩ : St) p0.Words_ (eI .u32) (some 63) (by generalize r5 = qp0; generalize r9 = qp1; cases qp0 <;> cases qp1 <;> kernel_rfl) (by generalize r5 = qp0; generalize r9 = qp1; cases qp0 <;> cases qp1 <;> kernel_rfl)) ?_
 refine yr 2 ⟨(L47 r5 r9), [B3, B4, B5, B6, B7], H11⟩ ?_ (h := (by generalize r5 = qp0; generalize r9 = qp1; cases qp0 <;> cases qp1 <;> kernel_rfl))
 refine o_one ⟨(L47 r5 r9) ++ [E22], [B3, B4, B5, B6, B7], H11⟩ (st_len (⟨(L47 r5 r9), [B3, B4, B5, B6, B7], H11⟩ : St) r3.W_ (eI .u32) (some 66) (by generalize r5 = qp0; generalize r9 = qp1; cases qp0 <;> cases qp1 <;> kernel_rfl) (by generalize r5 = qp0; generalize r9 = qp1; cases qp0 <;> cases qp1 <;> kernel_rfl)) ?_
 refine yr 1 ⟨(L51 r5 r9), [B3, B4, B5, B6, B7], H11⟩ ?_ (h := (by generalize r5 = qp0; generalize r9 = qp1; cases qp0 <;> cases qp1 <;> kernel_rfl))
 refine o_one ⟨(L51 r5 r9) ++ [E23], [B3, B4, B5, B6, B7], H11⟩ (st_cut (X := X) (⟨(L51 r5 r9), [B3, B4, B5, B6, B7], H11⟩ : St) 42 35 1 h16 (eI .u32) (.own 0) none (some (.tmp 67)) (some 68) (by generalize r5 = qp0; generalize r9 = qp1; cases qp0 <;> cases qp1 <;> kernel_rfl) (by generalize r5 = qp0; generalize r9 = qp1; cases qp0 <;> cases qp1 <;> kernel_rfl) (by generalize r5 = qp0; generalize r9 = qp1; cases qp0 <;> cases qp1 <;> kernel_rfl) (by generalize r5 = qp0; generalize r9 = qp1; cases qp0 <;> cases qp1 <;> kernel_rfl) (show bndIs X.P _ _ none _ from rfl) (show (opnd X.P (⟨(L51 r5 r9), [B3, B4, B5, B6, B7], H11⟩ : St) 0 (.tmp 67)).bind natOf = some (if (r3.W_.length : Int) < (p0.Words_.length : Int) then (r3.W_.length : Int) else (p0.Words_.length : Int)) by kernel_rfl) (by generalize r5 = qp0; generalize r9 = qp1; cases qp0 <;> cases qp1 <;> kernel_rfl)) ?_
 refine yr 1 ⟨(L46 r5 r9) ++ L44 ++ [E21, (64, vl 7 5), E24, E22, E25, E23], [B3, B4, B5, B6, B7], H11⟩ ?_ (h := (by generalize r5 = qp0; generalize r9 = qp1; cases qp0 <;> cases qp1 <;> kernel_rfl))
 exact ye
 refine w_seq ?_
 obtain ⟨H19, r17, c18, hF⟩ := bind2_inv hF
 refine w_regO ⟨(L46 r5 r9), [B3, B4, B5, B6, B7], H19⟩ ?_ ?_
 refine yr 2 ⟨(L46 r5 r9) ++ [(69, vp r5), E26], [B3, B4, B5, B6, B7], H11⟩ ?_ (h := (by generalize r5 = qp0; generalize r9 = qp1; cases qp0 <;> cases qp1 <;> kernel_rfl))
 refine o_one ⟨(L46 r5 r9) ++ [(69, vp r5), E26, (71, vi r17)], [B3, B4, B5, B6, B7], H19⟩ (yc (some 71) false false (⟨(L46 r5 r9) ++ [(69, vp r5), E26], [B3, B4, B5, B6, B7], H11⟩ : St) (ok_memory_Mem_Fill_2 H11 c18) (hr := (by generalize r5 = qp0; generalize r9 = qp1; cases qp0 <;> cases qp1 <;> kernel_rfl)) (hs := (by generalize r5 = qp0; generalize r9 = qp1; cases qp0 <;> cases qp1 <;> kernel_rfl))) ?_
 exact ye
 refine w_seq ?_
 obtain ⟨r20, r21, c22, hF⟩ := bind2_inv hF
 let B27 : EB := (7, (m0_ref03_Mem r20))
 let E30 : EN := (75, .tup [.agg (m0_ref03_Mem r20), vi r21])
 let E36 : EN := (86, .agg (m0_ref03_Mem r20))
 refine w_regO ⟨(L41 r5 r9), [B3, B4, B5, B6, B27], H19⟩ ?_ ?_
 refine yr 2 ⟨(L46 r5 r9) ++ [E28, E29], [B3, B4, B5, B6, B7], H19⟩ ?_ (h := (by generalize r5 = qp0; generalize r9 = qp1; cases qp0 <;> cases qp1 <;> kernel_rfl))
 refine o_one ⟨(L46 r5 r9) ++ [E28, E29, E30], [B3, B4, B5, B6, B7], H19⟩ (yc (some 75) true false (⟨(L46 r5 r9) ++ [E28, E29], [B3, B4, B5, B6, B7], H19⟩ : St) (ok_ref03_Fill H19 c22) (hr := (by generalize r5 = qp0; generalize r9 = qp1; cases qp0 <;> cases qp1 <;> kernel_rfl)) (hs := (by generalize r5 = qp0; generalize r9 = qp1; cases qp0 <;> cases qp1 <;> kernel_rfl))) ?_
 refine yr 4 ⟨(L46 r5 r9) ++ [(72, .tup [.agg (m0_ref03_Mem r20), vi r21]), E28, E29, E30, (76, .agg (m0_ref03_Mem r20)), (77, vi r21)], [B3, B4, B5, B6, B27], H19⟩ ?_ (h := (by generalize r5 = qp0; generalize r9 = qp1; cases qp0 <;> cases qp1 <;> kernel_rfl))
 exact ye
 refine w_seq ?_
 obtain ⟨i23, o24, h25, hF⟩ := pbnd_inv hF
 let E31 : EN := (10, vo i23 o24)
 let E33 : EN := (82, vo i23 o24)
 let E34 : EN := (2, vo i23 o24)
 let L48 : Ptr → List EN := fun z0 => L39 ++ [(8, vp z0), E31, (83, vo i23 o24), (84, vp z0)]
 let L50 : Ptr → List EN := fun z0 => (L40 z0) ++ [E31, (78, vo i23 o24), (79, vl 1 10), E32, (81, vo i23 o24)]
 obtain ⟨x26, V27, hF⟩ := bind1_inv hF
 replace V27 := hgetT_inv V27
 let W1 : Heap := hset H19 i23 o24 (arM .u32 16 p0.R_ ++ [(.top, .int .u32 x26.PC_), (.top, .int .u32 x26.EPC_), (.top, .int .u32 x26.Cause_), (.top, .int .i64 x26.State_), (.top, .int .i64 x26.Why_), (.top, .int .i64 x26.Steps_), (.top, .int .i64 x26.Taken_), ((.own 1), .sl 2 (List.map e_api_Event x26.Out_)), (.top, .int .u32 x26.setup_.Entry_), (.top, .int .u32 x26.setup_.Vector_), (.top, .int .u32 x26.setup_.Guard_), (.top, .int .u32 x26.setup_.Limit_), ((.own 1), .sl 1 (List.map (eI .i32) x26.input_))])
 obtain ⟨H28, h29, hF⟩ := bnd_inv hF
 have V30 : hget H28 i23 o24 29 = some (o_cpu_Cpu (T_cpu_Cpu.mk p0.R_ x26.PC_ x26.EPC_ x26.Cause_ x26.State_ x26.Why_ x26.Steps_ x26.Taken_ x26.Out_ x26.setup_ x26.input_)) := by rw [← h29]; exact hset_get V27 rfl
 refine w_regO ⟨L39 ++ [(8, vp r5), E31], [B4, B5, B6, B27], H28⟩ ?_ ?_
 refine yr 3 ⟨(L41 r5 r9) ++ [(78, vp r9), (79, vl 1 10), E32], [B3, B4, B5, B6, B27], H19⟩ ?_ (h := (by generalize r5 = qp0; generalize r9 = qp1; cases qp0 <;> cases qp1 <;> kernel_rfl))
 refine o_eq (congrArg (fun q => (⟨(L40 r5) ++ [(10, vp q), (78, vp q), (79, vl 1 10), E32], [B3, B4, B5, B6, B27], H19⟩ : St)) h25) ?_
 refine yr 1 ⟨(L50 r5), [B3, B4, B5, B6, B27], H19⟩ ?_ (h := (by generalize r5 = qp0; cases qp0 <;> kernel_rfl))
 refine yr 1 ⟨(L50 r5) ++ [E33], [B3, B4, B5, B6, B27], H19⟩ ?_ (h := (by generalize r5 = qp0; cases qp0 <;> kernel_rfl))
 refine o_one ⟨(L50 r5) ++ [E33], [B3, B4, B5, B6, B27], W1⟩ (st_st (X := X) (lc := []) (h2 := W1) (⟨(L50 r5) ++ [E33], [B3, B4, B5, B6, B27], H19⟩ : St) 46 V27 0 16 (.agg (arM .u32 16 p0.R_)) (by generalize r5 = qp0; cases qp0 <;> kernel_rfl) (by generalize r5 = qp0; cases qp0 <;> kernel_rfl) (by generalize r5 = qp0; cases qp0 <;> kernel_rfl) (by generalize r5 = qp0; cases qp0 <;> kernel_rfl) (by generalize r5 = qp0; cases qp0 <;> kernel_rfl) (by generalize r5 = qp0; cases qp0 <;> kernel_rfl) (hset_sub0 (k := 0) V27 (Nat.le_of_ble_eq_true rfl)) (by generalize r5 = qp0; cases qp0 <;> kernel_rfl)) ?_
 refine o_eq (congrArg (fun q => (⟨(L50 r5) ++ [E33], [B3, B4, B5, B6, B27], q⟩ : St)) h29) ?_
 exact ye
 refine w_seq ?_
 refine w_regD (.take 0 (.take 1 (.take 2 (.take 3 (.take 4 (.take 5 (.last 6 (.last 7 .done)))))))) (by kernel_rfl) (⟨[E34, (3, vp r5)] ++ L38, [B16, (5, (m0_ref03_Mem r20))], H28⟩ : St) ?_ ?_
 refine d_take ⟨L39 ++ [(8, vp r5), E31, (83, vo i23 o24)], [B4, B5, B6, B27], H28⟩ (by generalize r5 = qp0; cases qp0 <;> kernel_rfl) ?_
 refine d_take ⟨(L48 r5), [B4, B5, B6, B27], H28⟩ (by generalize r5 = qp0; cases qp0 <;> kernel_rfl) ?_
 refine d_take ⟨(L48 r5) ++ [E35], [B4, B5, B18, B27], H28⟩ (by generalize r5 = qp0; cases qp0 <;> kernel_rfl) ?_
 refine d_take ⟨(L48 r5) ++ [E35, E36], [B4, B5, B18, B27], H28⟩ (by generalize r5 = qp0; cases qp0 <;> kernel_rfl) ?_
 refine d_take ⟨[E34] ++ (L48 r5) ++ [E35, E36], [B4, B5, B18, B27], H28⟩ (by generalize r5 = qp0; cases qp0 <;> kernel_rfl) ?_
 refine d_take ⟨[E34, (3, vp r5)] ++ (L48 r5) ++ [E35, E36], [B4, B5, B18, B27], H28⟩ (by generalize r5 = qp0; cases qp0 <;> kernel_rfl) ?_
 refine d_last ⟨[E34, (3, vp r5)] ++ (L48 r5) ++ [E37, E36], [B16, B5, B18, B27], H28⟩ (by generalize r5 = qp0; cases qp0 <;> kernel_rfl) ?_
 refine d_last ⟨[E34, (3, vp r5)] ++ (L48 r5) ++ [E37, E36], [B16, (5, (m0_ref03_Mem r20)), B18, B27], H28⟩ (by generalize r5 = qp0; cases qp0 <;> kernel_rfl) ?_
 exact yde
 refine w_ret ?_
 obtain ⟨e0, e1, e2, e3, e4⟩ := some5_inv hF
 subst e0
 subst e1
 subst e2
 subst e3
 subst e4
 exact fin_imp (v := .tup [vo i23 o24, vp r5, .agg (arM .u32 16 p0.R_ ++ [(.top, .int .u32 p0.S_.Entry_), (.top, .int .u32 0), (.top, .int .u32 0)] ++ List.replicate 4 (.top, .int .i64 0) ++ [((.own 1), .sl 2 (List.map e_api_Event ([] : List T_api_Event))), (.top, .int .u32 p0.S_.Entry_), (.top, .int .u32 p0.S_.Vector_), (.top, .int .u32 p0.S_.Guard_), (.top, .int .u32 p0.S_.Limit_), ((.own 0), .sl 1 (List.map (eI .i32) p0.Input_))]), .agg (m0_ref03_Mem r20)]) (by generalize r5 = qp0; cases qp0 <;> kernel_rfl) (by kernel_rfl) (by kernel_rfl)
noncomputable def memory_Differ_L1 (x4 : T_memory_Mem) (x9 : T_memory_Mem) (a12 : Int) : Option ((Int) ⊕ (Unit ⊕ (Int))) :=
  if (decide (a12 < (x4.words_.length : Int))) = true then (bind1 (gi x4.words_ a12) fun x14 =>
  bind1 (gi x9.words_ a12) fun x16 =>
  if (x14 != x16) = true then (some (Sum.inr (Sum.inr (IntKind.wrap .u32 (IntKind.wrap .i64 (4 * a12))))))
  else (some (Sum.inl (IntKind.wrap .i64 (a12 + 1)))))
  else (some (Sum.inr (Sum.inl ())))
noncomputable def memory_Differ (H : Heap) (p0 : Ptr) (p1 : Ptr) : Option (Int × Bool) :=
  (p0).bnd fun i1 o2 =>
  bind1 (get_memory_Mem H i1 o2) fun x4 =>
  (p1).bnd fun i6 o7 =>
  bind1 (get_memory_Mem H i6 o7) fun x9 =>
  if (!(eq_memory_Layout x4.layout_ x9.layout_)) = true then (some (0, false))
  else (bind1 (loopO (fun (x : (Int)) => memory_Differ_L1 x4 x9 x) 0) (sum2 (fun (_ : Unit) =>
  some (0, false)) (fun b21 =>
  some (b21, true))))
theorem ok_memory_Differ (H : Heap) {p0 : Ptr} {p1 : Ptr} {ra : Int} {rb : Bool} (hF : memory_Differ H p0 p1 = some (ra, rb)) : evS X 64 [.one .top (Ptr.av p0), .one .top (Ptr.av p1)] H = some (.tup [.one .top (.int .u32 ra), .one .top (.bool rb)], H) := by
 let E1 : Ptr → EN := fun z0 => (1, vp z0)
 let S22 : Ptr → Ptr → St := fun z0 z1 => ⟨[(0, vp z0), (E1 z1)], [], H⟩
 let S23 : St := ⟨[], [], H⟩
 let S24 : St := ⟨[(4, vu 0), (5, vF)], [], H⟩
 refine yf Try.func64 true (S22 p0 p1) ?_
 unfold memory_Differ at hF
 refine ysg (S22 p0 p1) ?_ (h := (by generalize p0 = qp0; generalize p1 = qp1; cases qp0 <;> cases qp1 <;> kernel_rfl))
 refine w_seq ?_
 refine w_seq ?_
 obtain ⟨i1, o2, h3, hF⟩ := pbnd_inv hF
 let E2 : EN := (0, vo i1 o2)
 let L14 : List EN := [(8, vo i1 o2), (9, vo i1 o2), (10, vo i1 o2)]
 let L20 : Ptr → List EN := fun z0 => [E2, (E1 z0)]
 obtain ⟨x4, V5, hF⟩ := bind1_inv hF
 replace V5 := hgetT_inv V5
 let E5 : EN := (11, .agg [(.top, .int .u32 x4.layout_.Code_), (.top, .int .u32 x4.layout_.Tables_), (.top, .int .u32 x4.layout_.Data_), (.top, .int .u32 x4.layout_.Heap_), (.top, .int .u32 x4.layout_.Stack_)])
 let E8 : EN := (20, .one .bh (.sl 1 (List.map (eI .u32) x4.words_)))
 let L13 : List EN := [E8, (21, vi (x4.words_.length : Int))]
 obtain ⟨i6, o7, h8, hF⟩ := pbnd_inv hF
 let E3 : EN := (1, vo i6 o7)
 let E6 : EN := (14, vo i6 o7)
 let L18 : List EN := [E2, E3] ++ L14 ++ [E5, (12, vo i6 o7), (13, vo i6 o7)]
 let L19 : List EN := [E2, E3, (17, vo i1 o2), (18, vo i1 o2), (19, vo i1 (o2 + 5))]
 obtain ⟨x9, V10, hF⟩ := bind1_inv hF
 replace V10 := hgetT_inv V10
 let E4 : EN := (16, vb (!(eq_memory_Layout x4.layout_ x9.layout_)))
 let E7 : EN := (15, .agg [(.top, .int .u32 x9.layout_.Code_), (.top, .int .u32 x9.layout_.Tables_), (.top, .int .u32 x9.layout_.Data_), (.top, .int .u32 x9.layout_.Heap_), (.top, .int .u32 x9.layout_.Stack_)])
 let E11 : EN := (31, .one .bh (.sl 1 (List.map (eI .u32) x9.words_)))
 refine w_regD (.take 0 (.take 1 (.take 2 (.take 3 (.take 4 (.take 5 (.take 6 (.take 7 (.take 8 .done))))))))) (by kernel_rfl) (⟨[E2, E3, E4], [], H⟩ : St) ?_ ?_
 refine d_take ⟨[(0, vp p0), (E1 p1), (8, vp p0)], [], H⟩ (by generalize p0 = qp0; generalize p1 = qp1; cases qp0 <;> cases qp1 <;> kernel_rfl) ?_
 refine d_eq (congrArg (fun q => (⟨[(0, vp q), (E1 p1), (8, vp q)], [], H⟩ : St)) h3) ?_
 refine d_take ⟨(L20 p1) ++ [(8, vo i1 o2), (9, vo i1 o2)], [], H⟩ (by generalize p1 = qp0; cases qp0 <;> kernel_rfl) ?_
 refine d_take ⟨(L20 p1) ++ L14, [], H⟩ (by generalize p1 = qp0; cases qp0 <;> kernel_rfl) ?_
 refine d_take ⟨(L20 p1) ++ L14 ++ [E5], [], H⟩ (st_ld (X := X) (⟨(L20 p1) ++ L14, [], H⟩ : St) 92 V5 0 5 true (.agg [(.top, .int .u32 x4.layout_.Code_), (.top, .int .u32 x4.layout_.Tables_), (.top, .int .u32 x4.layout_.Data_), (.top, .int .u32 x4.layout_.Heap_), (.top, .int .u32 x4.layout_.Stack_)]) (some 11) (by generalize p1 = qp0; cases qp0 <;> kernel_rfl) (by generalize p1 = qp0; cases qp0 <;> kernel_rfl) (by generalize p1 = qp0; cases qp0 <;> kernel_rfl) (by generalize p1 = qp0; cases qp0 <;> kernel_rfl) (by generalize p1 = qp0; cases qp0 <;> kernel_rfl) (by generalize p1 = qp0; cases qp0 <;> kernel_rfl)) ?_
 refine d_take ⟨(L20 p1) ++ L14 ++ [E5, (12, vp p1)], [], H⟩ (by generalize p1 = qp0; cases qp0 <;> kernel_rfl) ?_
 refine d_eq (congrArg (fun q => (⟨[E2, (1, vp q)] ++ L14 ++ [E5, (12, vp q)], [], H⟩ : St)) h8) ?_
 refine ydk 2 ⟨L18 ++ [E6], [], H⟩ ?_
 refine d_take ⟨L18 ++ [E6, E7], [], H⟩ (yd (X := X) (⟨L18 ++ [E6], [], H⟩ : St) 92 V10 0 5 true (.agg [(.top, .int .u32 x9.layout_.Code_), (.top, .int .u32 x9.layout_.Tables_), (.top, .int .u32 x9.layout_.Data_), (.top, .int .u32 x9.layout_.Heap_), (.top, .int .u32 x9.layout_.Stack_)]) (some 15)) ?_
 refine d_take ⟨L18 ++ [E6, E7, E4], [], H⟩ (st_bin (⟨L18 ++ [E6, E7], [], H⟩ : St) (bin_neA (P := X.P) (ty := 92) (x := (.tmp 11)) (y := (.tmp 15)) (cs := [(.top, .int .u32 x4.layout_.Code_), (.top, .int .u32 x4.layout_.Tables_), (.top, .int .u32 x4.layout_.Data_), (.top, .int .u32 x4.layout_.Heap_), (.top, .int .u32 x4.layout_.Stack_)]) (ds := [(.top, .int .u32 x9.layout_.Code_), (.top, .int .u32 x9.layout_.Tables_), (.top, .int .u32 x9.layout_.Data_), (.top, .int .u32 x9.layout_.Heap_), (.top, .int .u32 x9.layout_.Stack_)]) (us := [.int .u32 x4.layout_.Code_, .int .u32 x4.layout_.Tables_, .int .u32 x4.layout_.Data_, .int .u32 x4.layout_.Heap_, .int .u32 x4.layout_.Stack_]) (vs := [.int .u32 x9.layout_.Code_, .int .u32 x9.layout_.Tables_, .int .u32 x9.layout_.Data_, .int .u32 x9.layout_.Heap_, .int .u32 x9.layout_.Stack_]) (qs := [x4.layout_.Code_ == x9.layout_.Code_, x4.layout_.Tables_ == x9.layout_.Tables_, x4.layout_.Data_ == x9.layout_.Data_, x4.layout_.Heap_ == x9.layout_.Heap_, x4.layout_.Stack_ == x9.layout_.Stack_]) (by kernel_rfl) (by kernel_rfl) (by kernel_rfl) (by kernel_rfl)) rfl (some 16) (by kernel_rfl) (by kernel_rfl)) ?_
 exact yde
 rcases if_inv hF with ⟨h11, hF⟩ | ⟨h11, hF⟩
 refine yT h11 S23 ?_
 refine ysg S24 ?_
 refine w_ret ?_
 obtain ⟨e0, e1⟩ := some2_inv hF
 subst e0
 subst e1
 exact yp (.tup [vu 0, vF])
 refine yF h11 ⟨[E2, E3], [], H⟩ ?_
 refine w_skip ?_
 refine w_seq ?_
 refine yso ⟨[E3] ++ L13 ++ [(22, vi 0)], [], H⟩ ?_ ?_
 refine yr 3 ⟨L19, [], H⟩ ?_
 refine o_one ⟨L19 ++ [E8], [], H⟩ (yd (X := X) (⟨L19, [], H⟩ : St) 42 V5 5 1 false (.one .bh (.sl 1 (List.map (eI .u32) x4.words_))) (some 20)) ?_
 refine o_one ⟨L19 ++ L13, [], H⟩ (yl (⟨L19 ++ [E8], [], H⟩ : St) x4.words_ (eI .u32) (some 21)) ?_
 refine yr 1 ⟨L19 ++ L13 ++ [(22, vi 0)], [], H⟩ ?_
 exact ye
 refine w_block ?_
 obtain ⟨r19, hL20, hF⟩ := bind1_inv hF
 refine w_loop (fun (x : (Int)) => (⟨[E3] ++ L13 ++ [(22, vi x)], [], H⟩ : St)) (Sum.elim (fun (y : Unit) => ((.exit 0, S23) : Ex × St)) (fun (y : (Int)) => ((.ret, (⟨[(4, vu y), (5, vT)], [], H⟩ : St)) : Ex × St))) hL20 (by kernel_rfl) ?_ ?_
 rintro a12 o hF
 replace hF : memory_Differ_L1 x4 x9 a12 = some o := hF
 let E9 : EN := (24, vi a12)
 let L17 : List EN := [E3] ++ L13 ++ [(22, vi a12)]
 unfold memory_Differ_L1 at hF
 refine ysg ⟨L17 ++ [(23, vb (decide (a12 < (x4.words_.length : Int))))], [], H⟩ ?_
 refine w_seq ?_
 rcases if_inv hF with ⟨h13, hF⟩ | ⟨h13, hF⟩
 refine yT h13 ⟨L17, [], H⟩ ?_
 refine w_skip ?_
 refine w_seq ?_
 refine w_block ?_
 refine w_seq ?_
 obtain ⟨x14, h15, hF⟩ := bind1_inv hF
 let E10 : EN := (25, .one .top (.rd .bh .bh [.int .u32 x14] 0))
 let L15 : List EN := [E3, (6, vi a12), (7, vu x14)] ++ L13 ++ [(22, vi a12)]
 let L16 : List EN := L15 ++ [(27, vu x14), (28, vo i6 o7), (29, vo i6 o7), (30, vo i6 (o7 + 5))]
 let L21 : List EN := L16 ++ [E11, (32, vi a12)]
 refine w_regO ⟨L15, [], H⟩ ?_ ?_
 refine yr 1 ⟨L17 ++ [E9], [], H⟩ ?_
 refine o_one ⟨L17 ++ [E9, E10], [], H⟩ (st_ix (X := X) (⟨L17 ++ [E9], [], H⟩ : St) 42 35 1 h15 (eI .u32) .bh (some 25) (by kernel_rfl) (by kernel_rfl) (by kernel_rfl) (by kernel_rfl)) ?_
 refine yr 3 ⟨L15 ++ [E9, E10, (26, vu x14)], [], H⟩ ?_
 exact ye
 refine w_seq ?_
 obtain ⟨x16, h17, hF⟩ := bind1_inv hF
 let E12 : EN := (33, .one .top (.rd .bh .bh [.int .u32 x16] 0))
 refine w_regO ⟨[E3, (6, vi a12)] ++ L13 ++ [(22, vi a12), (35, vb (x14 != x16))], [], H⟩ ?_ ?_
 refine yr 4 ⟨L16, [], H⟩ ?_
 refine o_one ⟨L16 ++ [E11], [], H⟩ (yd (X := X) (⟨L16, [], H⟩ : St) 42 V10 5 1 false (.one .bh (.sl 1 (List.map (eI .u32) x9.words_))) (some 31)) ?_
 refine yr 1 ⟨L21, [], H⟩ ?_
 refine o_one ⟨L21 ++ [E12], [], H⟩ (st_ix (X := X) (⟨L21, [], H⟩ : St) 42 35 1 h17 (eI .u32) .bh (some 33) (by kernel_rfl) (by kernel_rfl) (by kernel_rfl) (by kernel_rfl)) ?_
 refine yr 2 ⟨L21 ++ [E12, (34, vu x16), (35, vb (x14 != x16))], [], H⟩ ?_
 exact ye
 rcases if_inv hF with ⟨h18, hF⟩ | ⟨h18, hF⟩
 refine yT h18 ⟨[(6, vi a12)], [], H⟩ ?_
 refine ysg ⟨[(4, vu (IntKind.wrap .u32 (IntKind.wrap .i64 (4 * a12)))), (5, vT)], [], H⟩ ?_
 refine w_ret ?_
 cases hF
 exact ⟨_, rfl, (by kernel_rfl)⟩
 refine yF h18 ⟨L17, [], H⟩ ?_
 refine w_skip ?_
 refine yg ⟨[E3] ++ L13 ++ [(22, vi (IntKind.wrap .i64 (a12 + 1)))], [], H⟩ ?_
 cases hF
 exact ⟨_, rfl, (by kernel_rfl)⟩
 refine yF h13 S23 ?_
 refine w_exit ?_
 cases hF
 exact ⟨_, rfl, (by kernel_rfl)⟩
 rcases sum2_inv hF with ⟨r19', rfl, hF⟩ | ⟨r19', rfl, hF⟩
 refine w_oe (i := 0) (s := S23) (by kernel_rfl) ?_
 refine e_here ?_
 refine ysg S24 ?_
 refine w_ret ?_
 obtain ⟨e0, e1⟩ := some2_inv hF
 subst e0
 subst e1
 exact yp (.tup [vu 0, vF])
 obtain ⟨b21, hy⟩ : ∃ y, y = r19' := ⟨_, rfl⟩
 subst hy
 refine w_or (s := (⟨[(4, vu b21), (5, vT)], [], H⟩ : St)) (by kernel_rfl) ?_
 obtain ⟨e0, e1⟩ := some2_inv hF
 subst e0
 subst e1
 exact yp (.tup [vu b21, vT])
noncomputable def law04_CpuParts (H : Heap) (p0 : T_law04_Case) (p1 : Int) (p2 : Int) : Option (Heap × Bool) :=
  bind2 (law04_awake H) fun H3 r1 =>
  if (!r1) = true then (some (H3, false))
  else (bind1 (law04_few p0) fun r5 =>
  if (!r5) = true then (some (H3, true))
  else (bind5 (law04_begun H3 p0) fun H13 r8 r9 r10 r11 =>
  bind5 (law04_begun H13 p0) fun H19 r14 r15 r16 r17 =>
  if (r8.isNil || r14.isNil) = true then (some (H19, false))
  else (bind2 (cpu_Cpu_Run H19 r8 r9 (IntKind.wrap .i64 p1)) fun H24 r22 =>
  bind2 (cpu_Cpu_Run H24 r8 r9 (IntKind.wrap .i64 p2)) fun H27 r25 =>
  bind2 (cpu_Cpu_Run H27 r14 r15 (IntKind.wrap .i64 ((IntKind.wrap .i64 p1) + (IntKind.wrap .i64 p2)))) fun H30 r28 =>
  bind2 (memory_Differ H30 r9 r15) fun r31 r32 =>
  bind1 (if (!r32) = true then ((r8).bnd fun i35 o36 =>
  bind1 (get_cpu_Cpu H30 i35 o36) fun x38 =>
  (r14).bnd fun i40 o41 =>
  bind1 (get_cpu_Cpu H30 i40 o41) fun x43 =>
  if (eq_a16_int_u32 x38.R_ x43.R_) = true then (if (x38.PC_ == x43.PC_) = true then (if (x38.State_ == x43.State_) = true then (if (x38.Steps_ == x43.Steps_) = true then (some ((x38.Out_.length : Int) == (x43.Out_.length : Int))) else (some false)) else (some false)) else (some false)) else (some false)) else (some false)) fun w49 =>
  some (H30, w49))))
theorem ok_law04_CpuParts (H : Heap) {p0 : T_law04_Case} {p1 : Int} {p2 : Int} {ra : Bool} {Hr : Heap} (hF : law04_CpuParts H p0 p1 p2 = some (Hr, ra)) : evS X 13 [.agg (m0_law04_Case p0), .one .top (.int .u8 p1), .one .top (.int .u8 p2)] H = some (.one .top (.bool ra), Hr) := by
 let E1 : EN := (1, .one .top (.int .u8 p1))
 let E2 : EN := (2, .one .top (.int .u8 p2))
 let B3 : EB := (3, (m0_law04_Case p0))
 let E4 : EN := (6, vF)
 let E5 : EN := (19, .agg (m0_law04_Case p0))
 let E6 : EN := (23, .agg (m0_law04_Case p0))
 let E8 : EN := (30, .agg (m0_law04_Case p0))
 let E38 : EN := (111, vF)
 let E39 : EN := (100, vF)
 let L48 : List EN := [(89, vF), (90, vF), (91, vN)]
 let L49 : List EN := L48 ++ [(92, vN), (93, vN)]
 let L50 : List EN := [E39, (101, vF), (102, vN)]
 let L51 : List EN := L49 ++ [(94, vN), (95, vN)]
 let L52 : List EN := L50 ++ [(103, vN)]
 let L53 : List EN := [(78, vF), (79, vF), (80, vN)]
 let L54 : List EN := L52 ++ [(104, vN)]
 let L55 : List EN := L53 ++ [(81, vN), (82, vN)]
 let L56 : List EN := L51 ++ [(96, vN), (97, vN)]
 let L57 : List EN := L54 ++ [(105, vN)]
 let L58 : List EN := L55 ++ [(83, vN), (84, vN)]
 let L61 : List EN := L57 ++ [(106, vN)]
 let L62 : List EN := L58 ++ [(85, vN), (86, vN)]
 let L64 : List EN := L61 ++ [(107, vN)]
 let L66 : List EN := L64 ++ [(108, vN)]
 let L67 : List EN := [E38, (112, vF)]
 let L68 : List EN := L66 ++ [(109, vN)]
 let L69 : List EN := L67 ++ [(113, vN)]
 let L71 : List EN := L69 ++ [(114, vN)]
 let L73 : List EN := L71 ++ [(115, vN)]
 let L74 : List EN := L62 ++ [(87, vN), (88, vN)] ++ L56 ++ [(98, vN), (99, vN)]
 let L76 : List EN := L73 ++ [(116, vN)]
 let L79 : List EN := L76 ++ [(117, vN)]
 let L82 : List EN := L79 ++ [(118, vN)]
 let L86 : List EN := L82 ++ [(119, vN)]
 let L88 : List EN := L86 ++ [(120, vN)]
 let L91 : List EN := L88 ++ [(121, vN)]
 let L93 : List EN := [E1, E2, (3, vl 3 0)]
 let L94 : List EN := L91 ++ [(122, vN)]
 let L100 : List EN := L94 ++ [(123, vN)]
 let L108 : List EN := L100 ++ [(124, vF)]
 refine yf Try.func13 false ⟨[(0, .agg (m0_law04_Case p0)), E1, E2], [], H⟩ ?_
 unfold law04_CpuParts at hF
 refine ysg ⟨L93, [B3], H⟩ ?_
 refine w_seq ?_
 refine w_seq ?_
 obtain ⟨H3, r1, c2, hF⟩ := bind2_inv hF
 refine w_regO ⟨L93 ++ [(18, vb (!r1))], [B3], H3⟩ ?_ ?_
 refine o_one ⟨L93 ++ [(17, vb r1)], [B3], H3⟩ (yc (some 17) false false (⟨L93, [B3], H⟩ : St) (ok_law04_awake H c2)) ?_
 refine yr 1 ⟨L93 ++ [(17, vb r1), (18, vb (!r1))], [B3], H3⟩ ?_
 exact ye
 rcases if_inv hF with ⟨h4, hF⟩ | ⟨h4, hF⟩
 refine yT h4 ⟨[], [], H3⟩ ?_
 refine ysg ⟨[E4], [], H3⟩ ?_
 refine w_ret ?_
 obtain ⟨e0, e1⟩ := some2_inv hF
 subst e0
 subst e1
 exact yi (vF)
 refine yF h4 ⟨L93, [B3], H3⟩ ?_
 refine w_skip ?_
 refine w_seq ?_
 refine w_seq ?_
 obtain ⟨r5, c6, hF⟩ := bind1_inv hF
 refine w_regO ⟨L93 ++ [(21, vb (!r5))], [B3], H3⟩ ?_ ?_
 refine yr 1 ⟨L93 ++ [E5], [B3], H3⟩ ?_
 refine o_one ⟨L93 ++ [E5, (20, vb r5)], [B3], H3⟩ (yc (some 20) true false (⟨L93 ++ [E5], [B3], H3⟩ : St) (ok_law04_few H3 c6)) ?_
 refine yr 1 ⟨L93 ++ [E5, (20, vb r5), (21, vb (!r5))], [B3], H3⟩ ?_
 exact ye
 rcases if_inv hF with ⟨h7, hF⟩ | ⟨h7, hF⟩
 refine yT h7 ⟨[], [], H3⟩ ?_
 refine ysg ⟨[(6, vT)], [], H3⟩ ?_
 refine w_ret ?_
 obtain ⟨e0, e1⟩ := some2_inv hF
 subst e0
 subst e1
 exact yi (vT)
 refine yF h7 ⟨L93, [B3], H3⟩ ?_
 refine w_skip ?_
 refine w_seq ?_
 obtain ⟨H13, r8, r9, r10, r11, c12, hF⟩ := bind5_inv hF
 let E7 : Ptr → Ptr → EN := fun z0 z1 => (24, .tup [vp z0, vp z1, .agg (m0_ref04_Cpu r10), .agg (m0_ref03_Mem r11)])
 let E10 : Ptr → EN := fun z0 => (7, vp z0)
 let E13 : Ptr → EN := fun z0 => (61, vp z0)
 let L112 : Ptr → Ptr → List EN := fun z0 z1 => L93 ++ [(E10 z0), (8, vp z1)]
 refine w_regO ⟨(L112 r8 r9), [B3], H13⟩ ?_ ?_
 refine yr 1 ⟨L93 ++ [E6], [B3], H3⟩ ?_
 refine o_one ⟨L93 ++ [E6, (E7 r8 r9)], [B3], H13⟩ (yc (some 24) false false (⟨L93 ++ [E6], [B3], H3⟩ : St) (ok_law04_begun H3 c12) (hr := (by generalize r8 = qp0; generalize r9 = qp1; cases qp0 <;> cases qp1 <;> kernel_rfl)) (hs := (by generalize r8 = qp0; generalize r9 = qp1; cases qp0 <;> cases qp1 <;> kernel_rfl))) ?_
 refine yr 11 ⟨(L112 r8 r9) ++ [(9, vl 9 0), (10, vl 10 0), (22, .tup [vp r8, vp r9, .agg (m1_ref04_Cpu r10), .agg (m0_ref03_Mem r11)]), E6, (E7 r8 r9), (25, vp r8), (26, vp r9), (27, .agg (m1_ref04_Cpu r10)), (28, .agg (m0_ref03_Mem r11))], [B3, (9, (m1_ref04_Cpu r10)), (10, (m0_ref03_Mem r11))], H13⟩ ?_ (h := (by generalize r8 = qp0; generalize r9 = qp1; cases qp0 <;> cases qp1 <;> kernel_rfl))
 exact ye
 refine w_seq ?_
 obtain ⟨H19, r14, r15, r16, r17, c18, hF⟩ := bind5_inv hF
 let E9 : Ptr → Ptr → EN := fun z0 z1 => (31, .tup [vp z0, vp z1, .agg (m0_ref04_Cpu r16), .agg (m0_ref03_Mem r17)])
 let E11 : Ptr → EN := fun z0 => (11, vp z0)
 let E14 : Ptr → EN := fun z0 => (62, vp z0)
 let L87 : Ptr → Ptr → Ptr → Ptr → List EN := fun z0 z1 z2 z3 => [(E10 z2), (8, vp z3), (E11 z0), (12, vp z1)]
 let L89 : Ptr → Ptr → Ptr → Ptr → List EN := fun z0 z1 z2 z3 => [E1, E2] ++ (L87 z0 z1 z2 z3)
 let L107 : Ptr → Ptr → Ptr → Ptr → List EN := fun z0 z1 z2 z3 => (L89 z0 z1 z2 z3) ++ [(36, vp z2)]
 let L113 : Ptr → Ptr → Ptr → Ptr → List EN := fun z0 z1 z2 z3 => (L107 z0 z1 z2 z3) ++ [(37, vF), (38, vF), (39, vp z0)]
 let L115 : Ptr → Ptr → Ptr → Ptr → List EN := fun z0 z1 z2 z3 => (L89 z0 z1 z2 z3) ++ [(42, vp z2), (43, vp z3), (44, .one .top (.int .u8 p1)), (45, vi (IntKind.wrap .i64 p1))]
 let L116 : Ptr → Ptr → Ptr → Ptr → List EN := fun z0 z1 z2 z3 => (L89 z0 z1 z2 z3) ++ [(47, vp z2), (48, vp z3), (49, .one .top (.int .u8 p2)), (50, vi (IntKind.wrap .i64 p2))]
 let L117 : Ptr → Ptr → Ptr → Ptr → List EN := fun z0 z1 z2 z3 => (L89 z0 z1 z2 z3) ++ [(52, vp z0), (53, vp z1), (54, .one .top (.int .u8 p1)), (55, vi (IntKind.wrap .i64 p1)), (56, .one .top (.int .u8 p2)), (57, vi (IntKind.wrap .i64 p2)), (58, vi (IntKind.wrap .i64 ((IntKind.wrap .i64 p1) + (IntKind.wrap .i64 p2))))]
 refine w_regO ⟨(L89 r14 r15 r8 r9), [], H19⟩ ?_ ?_
 refine yr 1 ⟨(L112 r8 r9) ++ [E8], [B3], H13⟩ ?_ (h := (by generalize r8 = qp0; generalize r9 = qp1; cases qp0 <;> cases qp1 <;> kernel_rfl))
 refine o_one ⟨(L112 r8 r9) ++ [E8, (E9 r14 r15)], [B3], H19⟩ (yc (some 31) false false (⟨(L112 r8 r9) ++ [E8], [B3], H13⟩ : St) (ok_law04_begun H13 c18) (hr := (by generalize r8 = qp0; generalize r9 = qp1; generalize r14 = qp2; generalize r15 = qp3; cases qp0 <;> cases qp1 <;> cases qp2 <;> cases qp3 <;> kernel_rfl)) (hs := (by generalize r8 = qp0; generalize r9 = qp1; generalize r14 = qp2; generalize r15 = qp3; cases qp0 <;> cases qp1 <;> cases qp2 <;> cases qp3 <;> kernel_rfl))) ?_
 refine yr 11 ⟨L93 ++ (L87 r14 r15 r8 r9) ++ [(13, vl 13 0), (14, vl 14 0), (29, .tup [vp r14, vp r15, .agg (m1_ref04_Cpu r16), .agg (m0_ref03_Mem r17)]), E8, (E9 r14 r15), (32, vp r14), (33, vp r15), (34, .agg (m1_ref04_Cpu r16)), (35, .agg (m0_ref03_Mem r17))], [B3, (13, (m1_ref04_Cpu r16)), (14, (m0_ref03_Mem r17))], H19⟩ ?_ (h := (by generalize r8 = qp0; generalize r9 = qp1; generalize r14 = qp2; generalize r15 = qp3; cases qp0 <;> cases qp1 <;> cases qp2 <;> cases qp3 <;> kernel_rfl))
 exact ye
 refine w_seq ?_
 refine yso ⟨(L89 r14 r15 r8 r9) ++ [(41, vb (r8.isNil || r14.isNil))], [], H19⟩ ?_ ?_
 refine yr 1 ⟨(L107 r14 r15 r8 r9), [], H19⟩ ?_ (h := (by generalize r8 = qp0; generalize r9 = qp1; generalize r14 = qp2; generalize r15 = qp3; cases qp0 <;> cases qp1 <;> cases qp2 <;> cases qp3 <;> kernel_rfl))
 refine o_one ⟨(L107 r14 r15 r8 r9) ++ [(37, vb r8.isNil)], [], H19⟩ (st_bin (⟨(L107 r14 r15 r8 r9), [], H19⟩ : St) (nil_eql (P := X.P) (ty := 102) (x := (.tmp 36)) (y := (.const (.pointer none))) (m := .top) (m' := .top) r8 (by generalize r8 = qp0; generalize r9 = qp1; generalize r14 = qp2; generalize r15 = qp3; cases qp0 <;> cases qp1 <;> cases qp2 <;> cases qp3 <;> kernel_rfl) (by generalize r8 = qp0; generalize r9 = qp1; generalize r14 = qp2; generalize r15 = qp3; cases qp0 <;> cases qp1 <;> cases qp2 <;> cases qp3 <;> kernel_rfl)) rfl (some 37) (by generalize r8 = qp0; generalize r9 = qp1; generalize r14 = qp2; generalize r15 = qp3; cases qp0 <;> cases qp1 <;> cases qp2 <;> cases qp3 <;> kernel_rfl) (by generalize r8 = qp0; generalize r9 = qp1; generalize r14 = qp2; generalize r15 = qp3; cases qp0 <;> cases qp1 <;> cases qp2 <;> cases qp3 <;> kernel_rfl)) ?_
 refine yr 1 ⟨(L107 r14 r15 r8 r9) ++ [(37, vb r8.isNil), (38, vb r8.isNil)], [], H19⟩ ?_ (h := (by generalize r8 = qp0; generalize r9 = qp1; generalize r14 = qp2; generalize r15 = qp3; cases qp0 <;> cases qp1 <;> cases qp2 <;> cases qp3 <;> kernel_rfl))
 rcases bool_cases r8.isNil with h20 | h20
 refine o_eq (congrArg (fun q => (⟨(L107 r14 r15 r8 r9) ++ [(37, vb q), (38, vb q)], [], H19⟩ : St)) h20) ?_
 refine yr 3 ⟨(L107 r14 r15 r8 r9) ++ [(37, vT), (38, vT), (39, vN), (40, vN), (41, vT)], [], H19⟩ ?_ (h := (by generalize r8 = qp0; generalize r9 = qp1; generalize r14 = qp2; generalize r15 = qp3; cases qp0 <;> cases qp1 <;> cases qp2 <;> cases qp3 <;> kernel_rfl))
 refine o_eq2 (congrArg (fun q0 => (⟨(L89 r14 r15 r8 r9) ++ [(41, vb q0)], [], H19⟩ : St)) (show true = (r8.isNil || r14.isNil) by simp [h20])) ?_
 exact ye
 refine o_eq (congrArg (fun q => (⟨(L107 r14 r15 r8 r9) ++ [(37, vb q), (38, vb q)], [], H19⟩ : St)) h20) ?_
 refine yr 1 ⟨(L113 r14 r15 r8 r9), [], H19⟩ ?_ (h := (by generalize r8 = qp0; generalize r9 = qp1; generalize r14 = qp2; generalize r15 = qp3; cases qp0 <;> cases qp1 <;> cases qp2 <;> cases qp3 <;> kernel_rfl))
 refine o_one ⟨(L113 r14 r15 r8 r9) ++ [(40, vb r14.isNil)], [], H19⟩ (st_bin (⟨(L113 r14 r15 r8 r9), [], H19⟩ : St) (nil_eql (P := X.P) (ty := 102) (x := (.tmp 39)) (y := (.const (.pointer none))) (m := .top) (m' := .top) r14 (by generalize r8 = qp0; generalize r9 = qp1; generalize r14 = qp2; generalize r15 = qp3; cases qp0 <;> cases qp1 <;> cases qp2 <;> cases qp3 <;> kernel_rfl) (by generalize r8 = qp0; generalize r9 = qp1; generalize r14 = qp2; generalize r15 = qp3; cases qp0 <;> cases qp1 <;> cases qp2 <;> cases qp3 <;> kernel_rfl)) rfl (some 40) (by generalize r8 = qp0; generalize r9 = qp1; generalize r14 = qp2; generalize r15 = qp3; cases qp0 <;> cases qp1 <;> cases qp2 <;> cases qp3 <;> kernel_rfl) (by generalize r8 = qp0; generalize r9 = qp1; generalize r14 = qp2; generalize r15 = qp3; cases qp0 <;> cases qp1 <;> cases qp2 <;> cases qp3 <;> kernel_rfl)) ?_
 refine yr 1 ⟨(L113 r14 r15 r8 r9) ++ [(40, vb r14.isNil), (41, vb r14.isNil)], [], H19⟩ ?_ (h := (by generalize r8 = qp0; generalize r9 = qp1; generalize r14 = qp2; generalize r15 = qp3; cases qp0 <;> cases qp1 <;> cases qp2 <;> cases qp3 <;> kernel_rfl))
 refine o_eq2 (congrArg (fun q0 => (⟨(L89 r14 r15 r8 r9) ++ [(41, vb q0)], [], H19⟩ : St)) (show r14.isNil = (r8.isNil || r14.isNil) by simp [h20])) ?_
 exact ye
 rcases if_inv hF with ⟨h21, hF⟩ | ⟨h21, hF⟩
 refine yT h21 ⟨[], [], H19⟩ ?_
 refine ysg ⟨[E4], [], H19⟩ ?_
 refine w_ret ?_
 obtain ⟨e0, e1⟩ := some2_inv hF
 subst e0
 subst e1
 exact yi (vF)
 refine yF h21 ⟨(L89 r14 r15 r8 r9), [], H19⟩ ?_
 refine w_skip ?_
 refine w_seq ?_
 obtain ⟨H24, r22, c23, hF⟩ := bind2_inv hF
 refine w_regO ⟨(L89 r14 r15 r8 r9), [], H24⟩ ?_ ?_
 refine yr 4 ⟨(L115 r14 r15 r8 r9), [], H19⟩ ?_ (h := (by generalize r8 = qp0; generalize r9 = qp1; generalize r14 = qp2; generalize r15 = qp3; cases qp0 <;> cases qp1 <;> cases qp2 <;> cases qp3 <;> kernel_rfl))
 refine o_one ⟨(L115 r14 r15 r8 r9) ++ [(46, vi r22)], [], H24⟩ (yc (some 46) false false (⟨(L115 r14 r15 r8 r9), [], H19⟩ : St) (ok_cpu_Cpu_Run H19 c23) (hr := (by generalize r8 = qp0; generalize r9 = qp1; generalize r14 = qp2; generalize r15 = qp3; cases qp0 <;> cases qp1 <;> cases qp2 <;> cases qp3 <;> kernel_rfl)) (hs := (by generalize r8 = qp0; generalize r9 = qp1; generalize r14 = qp2; generalize r15 = qp3; cases qp0 <;> cases qp1 <;> cases qp2 <;> cases qp3 <;> kernel_rfl))) ?_
 exact ye
 refine w_seq ?_
 obtain ⟨H27, r25, c26, hF⟩ := bind2_inv hF
 refine w_regO ⟨(L89 r14 r15 r8 r9), [], H27⟩ ?_ ?_
 refine yr 4 ⟨(L116 r14 r15 r8 r9), [], H24⟩ ?_ (h := (by generalize r8 = qp0; generalize r9 = qp1; generalize r14 = qp2; generalize r15 = qp3; cases qp0 <;> cases qp1 <;> cases qp2 <;> cases qp3 <;> kernel_rfl))
 refine o_one ⟨(L116 r14 r15 r8 r9) ++ [(51, vi r25)], [], H27⟩ (yc (some 51) false false (⟨(L116 r14 r15 r8 r9), [], H24⟩ : St) (ok_cpu_Cpu_Run H24 c26) (hr := (by generalize r8 = qp0; generalize r9 = qp1; generalize r14 = qp2; generalize r15 = qp3; cases qp0 <;> cases qp1 <;> cases qp2 <;> cases qp3 <;> kernel_rfl)) (hs := (by generalize r8 = qp0; generalize r9 = qp1; generalize r14 = qp2; generalize r15 = qp3; cases qp0 <;> cases qp1 <;> cases qp2 <;> cases qp3 <;> kernel_rfl))) ?_
 exact ye
 refine w_seq ?_
 obtain ⟨H30, r28, c29, hF⟩ := bind2_inv hF
 refine w_regO ⟨(L87 r14 r15 r8 r9), [], H30⟩ ?_ ?_
 refine yr 7 ⟨(L117 r14 r15 r8 r9), [], H27⟩ ?_ (h := (by generalize r8 = qp0; generalize r9 = qp1; generalize r14 = qp2; generalize r15 = qp3; cases qp0 <;> cases qp1 <;> cases qp2 <;> cases qp3 <;> kernel_rfl))
 refine o_one ⟨(L117 r14 r15 r8 r9) ++ [(59, vi r28)], [], H30⟩ (yc (some 59) false false (⟨(L117 r14 r15 r8 r9), [], H27⟩ : St) (ok_cpu_Cpu_Run H27 c29) (hr := (by generalize r8 = qp0; generalize r9 = qp1; generalize r14 = qp2; generalize r15 = qp3; cases qp0 <;> cases qp1 <;> cases qp2 <;> cases qp3 <;> kernel_rfl)) (hs := (by generalize r8 = qp0; generalize r9 = qp1; generalize r14 = qp2; generalize r15 = qp3; cases qp0 <;> cases qp1 <;> cases qp2 <;> cases qp3 <;> kernel_rfl))) ?_
 exact ye
 refine w_seq ?_
 obtain ⟨r31, r32, c33, hF⟩ := bind2_inv hF
 let E12 : EN := (16, vb r32)
 let E15 : EN := (63, .tup [vu r31, vb r32])
 let L40 : List EN := [E12, (66, vb r32), (67, vT), (68, vT)]
 let L70 : Ptr → Ptr → List EN := fun z0 z1 => [(E10 z1), (E11 z0), E12, (66, vb r32)]
 let L72 : Ptr → Ptr → List EN := fun z0 z1 => (L70 z0 z1) ++ [(67, vF), (68, vF), (69, vN)]
 let L75 : Ptr → Ptr → List EN := fun z0 z1 => (L72 z0 z1) ++ [(70, vN), (71, vN), (72, vN), (73, vN)]
 let L77 : Ptr → Ptr → List EN := fun z0 z1 => (L75 z0 z1) ++ [(74, vN), (75, vN), (76, vN), (77, vN)]
 let L96 : Ptr → Ptr → List EN := fun z0 z1 => (L77 z0 z1) ++ L74 ++ L68 ++ [(110, vN)]
 let L103 : Ptr → Ptr → List EN := fun z0 z1 => (L77 z0 z1) ++ L62 ++ [(87, vN), (88, vN)]
 let L104 : Ptr → Ptr → List EN := fun z0 z1 => (L77 z0 z1) ++ L74
 refine w_regO ⟨[(E10 r8), (E11 r14), E12], [], H30⟩ ?_ ?_
 refine yr 2 ⟨(L87 r14 r15 r8 r9) ++ [(E13 r9), (E14 r15)], [], H30⟩ ?_ (h := (by generalize r8 = qp0; generalize r9 = qp1; generalize r14 = qp2; generalize r15 = qp3; cases qp0 <;> cases qp1 <;> cases qp2 <;> cases qp3 <;> kernel_rfl))
 refine o_one ⟨(L87 r14 r15 r8 r9) ++ [(E13 r9), (E14 r15), E15], [], H30⟩ (yc (some 63) true false (⟨(L87 r14 r15 r8 r9) ++ [(E13 r9), (E14 r15)], [], H30⟩ : St) (ok_memory_Differ H30 c33) (hr := (by generalize r8 = qp0; generalize r9 = qp1; generalize r14 = qp2; generalize r15 = qp3; cases qp0 <;> cases qp1 <;> cases qp2 <;> cases qp3 <;> kernel_rfl)) (hs := (by generalize r8 = qp0; generalize r9 = qp1; generalize r14 = qp2; generalize r15 = qp3; cases qp0 <;> cases qp1 <;> cases qp2 <;> cases qp3 <;> kernel_rfl))) ?_
 refine yr 5 ⟨(L87 r14 r15 r8 r9) ++ [(15, vu r31), E12, (60, .tup [vu r31, vb r32]), (E13 r9), (E14 r15), E15, (64, vu r31), (65, vb r32)], [], H30⟩ ?_ (h := (by generalize r8 = qp0; generalize r9 = qp1; generalize r14 = qp2; generalize r15 = qp3; cases qp0 <;> cases qp1 <;> cases qp2 <;> cases qp3 <;> kernel_rfl))
 exact ye
 refine w_seq ?_
 obtain ⟨w49, hB50, hF⟩ := bind1_inv hF
 refine w_regD (.take 0 (.take 1 (.take 2 (.take 3 (.take 4 (.take 5 (.take 6 (.take 7 (.take 8 (.take 9 (.take 10 (.take 11 (.take 12 (.take 13 (.take 14 (.take 15 (.take 16 (.take 17 (.take 18 (.take 19 (.take 20 (.take 21 (.take 22 (.take 23 (.take 24 (.take 25 (.take 26 (.take 27 (.take 28 (.take 29 (.take 30 (.take 31 (.take 32 (.take 33 (.take 34 (.take 35 (.take 36 (.take 37 (.take 38 (.take 39 (.take 40 (.take 41 (.take 42 (.take 43 (.take 44 (.take 45 (.take 46 (.take 47 (.take 48 (.take 49 (.take 50 (.take 51 (.take 52 (.take 53 (.take 54 (.take 55 (.take 56 (.take 57 (.take 58 (.take 59 .done)))))))))))))))))))))))))))))))))))))))))))))))))))))))))))) (by kernel_rfl) (⟨[(6, vb w49)], [], H30⟩ : St) ?_ ?_
 refine d_take ⟨(L70 r14 r8), [], H30⟩ (by generalize r8 = qp0; generalize r14 = qp1; cases qp0 <;> cases qp1 <;> kernel_rfl) ?_
 refine d_take ⟨(L70 r14 r8) ++ [(67, vb (!r32))], [], H30⟩ (by generalize r8 = qp0; generalize r14 = qp1; cases qp0 <;> cases qp1 <;> kernel_rfl) ?_
 refine d_take ⟨(L70 r14 r8) ++ [(67, vb (!r32)), (68, vb (!r32))], [], H30⟩ (by generalize r8 = qp0; generalize r14 = qp1; cases qp0 <;> cases qp1 <;> kernel_rfl) ?_
 rcases if_inv hB50 with ⟨h34, hB50⟩ | ⟨h34, hB50⟩
 refine d_eq (congrArg (fun q => (⟨(L70 r14 r8) ++ [(67, vb q), (68, vb q)], [], H30⟩ : St)) h34) ?_
 refine d_take ⟨[(E10 r8), (E11 r14)] ++ L40 ++ [(69, vp r8)], [], H30⟩ (by generalize r8 = qp0; generalize r14 = qp1; cases qp0 <;> cases qp1 <;> kernel_rfl) ?_
 obtain ⟨i35, o36, h37, hB50⟩ := pbnd_inv hB50
 let E17 : EN := (7, vo i35 o36)
 let L41 : List EN := L40 ++ [(69, vo i35 o36), (70, vo i35 o36), (71, vo i35 o36)]
 let L111 : Ptr → List EN := fun z0 => [E17, (E11 z0)]
 refine d_eq (congrArg (fun q => (⟨[(7, vp q), (E11 r14)] ++ L40 ++ [(69, vp q)], [], H30⟩ : St)) h37) ?_
 refine d_take ⟨(L111 r14) ++ L40 ++ [(69, vo i35 o36), (70, vo i35 o36)], [], H30⟩ (by generalize r14 = qp0; cases qp0 <;> kernel_rfl) ?_
 obtain ⟨x38, V39, hB50⟩ := bind1_inv hB50
 replace V39 := hgetT_inv V39
 let E16 : EN := (72, .agg (arM .u32 16 x38.R_))
 let E21 : EN := (83, vu x38.PC_)
 let E25 : EN := (94, vi x38.State_)
 let E29 : EN := (105, vi x38.Steps_)
 let E33 : EN := (116, .one .bh (.sl 2 (List.map e_api_Event x38.Out_)))
 let E34 : EN := (117, vi (x38.Out_.length : Int))
 refine d_take ⟨(L111 r14) ++ L41, [], H30⟩ (by generalize r14 = qp0; cases qp0 <;> kernel_rfl) ?_
 refine d_take ⟨(L111 r14) ++ L41 ++ [E16], [], H30⟩ (st_ld (X := X) (⟨(L111 r14) ++ L41, [], H30⟩ : St) 46 V39 0 16 true (.agg (arM .u32 16 x38.R_)) (some 72) (by generalize r14 = qp0; cases qp0 <;> kernel_rfl) (by generalize r14 = qp0; cases qp0 <;> kernel_rfl) (by generalize r14 = qp0; cases qp0 <;> kernel_rfl) (by generalize r14 = qp0; cases qp0 <;> kernel_rfl) (by generalize r14 = qp0; cases qp0 <;> kernel_rfl) (by generalize r14 = qp0; cases qp0 <;> kernel_rfl)) ?_
 refine d_take ⟨(L111 r14) ++ L41 ++ [E16, (73, vp r14)], [], H30⟩ (by generalize r14 = qp0; cases qp0 <;> kernel_rfl) ?_
 obtain ⟨i40, o41, h42, hB50⟩ := pbnd_inv hB50
 let E18 : EN := (75, vo i40 o41)
 let E22 : EN := (84, vo i40 o41)
 let E26 : EN := (95, vo i40 o41)
 let E30 : EN := (106, vo i40 o41)
 let L42 : List EN := [E17, (11, vo i40 o41)] ++ L41 ++ [E16, (73, vo i40 o41), (74, vo i40 o41)]
 refine d_eq (congrArg (fun q => (⟨[E17, (11, vp q)] ++ L41 ++ [E16, (73, vp q)], [], H30⟩ : St)) h42) ?_
 refine ydt ⟨L42, [], H30⟩ ?_
 obtain ⟨x43, V44, hB50⟩ := bind1_inv hB50
 replace V44 := hgetT_inv V44
 let E19 : EN := (77, vb (eq_a16_int_u32 x38.R_ x43.R_))
 let E20 : EN := (78, vb (eq_a16_int_u32 x38.R_ x43.R_))
 let E23 : EN := (88, vb (x38.PC_ == x43.PC_))
 let E24 : EN := (89, vb (x38.PC_ == x43.PC_))
 let E27 : EN := (99, vb (x38.State_ == x43.State_))
 let E28 : EN := (100, vb (x38.State_ == x43.State_))
 let E31 : EN := (110, vb (x38.Steps_ == x43.Steps_))
 let E32 : EN := (111, vb (x38.Steps_ == x43.Steps_))
 let E35 : EN := (121, .one .bh (.sl 2 (List.map e_api_Event x43.Out_)))
 let E36 : EN := (122, vi (x43.Out_.length : Int))
 let E37 : EN := (124, vb ((x38.Out_.length : Int) == (x43.Out_.length : Int)))
 let L43 : List EN := L42 ++ [E18, (76, .agg (arM .u32 16 x43.R_))]
 let L44 : List EN := L43 ++ [(77, vT), (78, vT), (79, vT), (80, vo i35 o36)]
 let L45 : List EN := L44 ++ [(81, vo i35 o36), (82, vo i35 (o36 + 16))]
 let L46 : List EN := L45 ++ [E21, E22, (85, vo i40 o41), (86, vo i40 (o41 + 16))]
 let L47 : List EN := L46 ++ [(87, vu x43.PC_)]
 let L59 : List EN := L47 ++ [(88, vT), (89, vT), (90, vT), (91, vo i35 o36)]
 let L60 : List EN := L59 ++ [(92, vo i35 o36), (93, vo i35 (o36 + 19))]
 let L63 : List EN := L60 ++ [E25, E26, (96, vo i40 o41), (97, vo i40 (o41 + 19))]
 let L65 : List EN := L63 ++ [(98, vi x43.State_)]
 let L78 : List EN := L43 ++ [(77, vF)]
 let L80 : List EN := L65 ++ [(99, vT), (100, vT), (101, vT), (102, vo i35 o36)]
 let L81 : List EN := L80 ++ [(103, vo i35 o36), (104, vo i35 (o36 + 21))]
 let L83 : List EN := L81 ++ [E29, E30, (107, vo i40 o41), (108, vo i40 (o41 + 21))]
 let L84 : List EN := L83 ++ [(109, vi x43.Steps_)]
 let L85 : List EN := L47 ++ [(88, vF)]
 let L90 : List EN := L85 ++ L56 ++ [(98, vN), (99, vN)]
 let L92 : List EN := L65 ++ [(99, vF)]
 let L95 : List EN := L84 ++ [(110, vT), (111, vT), (112, vT), (113, vo i35 o36)]
 let L97 : List EN := L78 ++ L74 ++ L68 ++ [(110, vN)]
 let L98 : List EN := L90 ++ L68 ++ [(110, vN)]
 let L99 : List EN := L92 ++ L68 ++ [(110, vN)]
 let L101 : List EN := L95 ++ [(114, vo i35 o36), (115, vo i35 (o36 + 23))]
 let L102 : List EN := L84 ++ [(110, vF)]
 let L105 : List EN := L78 ++ L62 ++ [(87, vN), (88, vN)]
 let L106 : List EN := L78 ++ L74
 let L109 : List EN := L101 ++ [E33, E34, (118, vo i40 o41)]
 let L110 : List EN := L109 ++ [(119, vo i40 o41), (120, vo i40 (o41 + 23))]
 let L114 : List EN := L110 ++ [E35, E36, (123, vb ((x38.Out_.length : Int) == (x43.Out_.length : Int)))]
 refine ydt ⟨L42 ++ [E18], [], H30⟩ ?_
 refine d_take ⟨L43, [], H30⟩ (yd (X := X) (⟨L42 ++ [E18], [], H30⟩ : St) 46 V44 0 16 true (.agg (arM .u32 16 x43.R_)) (some 76)) ?_
 refine d_take ⟨L43 ++ [E19], [], H30⟩ (st_bin (⟨L43, [], H30⟩ : St) (bin_eqA (P := X.P) (ty := 46) (x := (.tmp 72)) (y := (.tmp 76)) (cs := (arM .u32 16 x38.R_)) (ds := (arM .u32 16 x43.R_)) (us := [.int .u32 (x38.R_.g 0), .int .u32 (x38.R_.g 1), .int .u32 (x38.R_.g 2), .int .u32 (x38.R_.g 3), .int .u32 (x38.R_.g 4), .int .u32 (x38.R_.g 5), .int .u32 (x38.R_.g 6), .int .u32 (x38.R_.g 7), .int .u32 (x38.R_.g 8), .int .u32 (x38.R_.g 9), .int .u32 (x38.R_.g 10), .int .u32 (x38.R_.g 11), .int .u32 (x38.R_.g 12), .int .u32 (x38.R_.g 13), .int .u32 (x38.R_.g 14), .int .u32 (x38.R_.g 15)]) (vs := [.int .u32 (x43.R_.g 0), .int .u32 (x43.R_.g 1), .int .u32 (x43.R_.g 2), .int .u32 (x43.R_.g 3), .int .u32 (x43.R_.g 4), .int .u32 (x43.R_.g 5), .int .u32 (x43.R_.g 6), .int .u32 (x43.R_.g 7), .int .u32 (x43.R_.g 8), .int .u32 (x43.R_.g 9), .int .u32 (x43.R_.g 10), .int .u32 (x43.R_.g 11), .int .u32 (x43.R_.g 12), .int .u32 (x43.R_.g 13), .int .u32 (x43.R_.g 14), .int .u32 (x43.R_.g 15)]) (qs := [(x38.R_.g 0) == (x43.R_.g 0), (x38.R_.g 1) == (x43.R_.g 1), (x38.R_.g 2) == (x43.R_.g 2), (x38.R_.g 3) == (x43.R_.g 3), (x38.R_.g 4) == (x43.R_.g 4), (x38.R_.g 5) == (x43.R_.g 5), (x38.R_.g 6) == (x43.R_.g 6), (x38.R_.g 7) == (x43.R_.g 7), (x38.R_.g 8) == (x43.R_.g 8), (x38.R_.g 9) == (x43.R_.g 9), (x38.R_.g 10) == (x43.R_.g 10), (x38.R_.g 11) == (x43.R_.g 11), (x38.R_.g 12) == (x43.R_.g 12), (x38.R_.g 13) == (x43.R_.g 13), (x38.R_.g 14) == (x43.R_.g 14), (x38.R_.g 15) == (x43.R_.g 15)]) (by kernel_rfl) (by kernel_rfl) (by kernel_rfl) (by kernel_rfl)) rfl (some 77) (by kernel_rfl) (by kernel_rfl)) ?_
 refine ydk 2 ⟨L43 ++ [E19, E20, (79, vb (eq_a16_int_u32 x38.R_ x43.R_))], [], H30⟩ ?_
 rcases if_inv hB50 with ⟨h45, hB50⟩ | ⟨h45, hB50⟩
 refine d_eq (congrArg (fun q => (⟨L43 ++ [(77, vb q), (78, vb q), (79, vb q)], [], H30⟩ : St)) h45) ?_
 refine ydk 3 ⟨L45, [], H30⟩ ?_
 refine d_take ⟨L45 ++ [E21], [], H30⟩ (yd (X := X) (⟨L45, [], H30⟩ : St) 35 V39 16 1 false (vu x38.PC_) (some 83)) ?_
 refine ydk 3 ⟨L46, [], H30⟩ ?_
 refine d_take ⟨L47, [], H30⟩ (yd (X := X) (⟨L46, [], H30⟩ : St) 35 V44 16 1 false (vu x43.PC_) (some 87)) ?_
 refine ydk 3 ⟨L47 ++ [E23, E24, (90, vb (x38.PC_ == x43.PC_))], [], H30⟩ ?_
 rcases if_inv hB50 with ⟨h46, hB50⟩ | ⟨h46, hB50⟩
 refine d_eq (congrArg (fun q => (⟨L47 ++ [(88, vb q), (89, vb q), (90, vb q)], [], H30⟩ : St)) h46) ?_
 refine ydk 3 ⟨L60, [], H30⟩ ?_
 refine d_take ⟨L60 ++ [E25], [], H30⟩ (yd (X := X) (⟨L60, [], H30⟩ : St) 3 V39 19 1 false (vi x38.State_) (some 94)) ?_
 refine ydk 3 ⟨L63, [], H30⟩ ?_
 refine d_take ⟨L65, [], H30⟩ (yd (X := X) (⟨L63, [], H30⟩ : St) 3 V44 19 1 false (vi x43.State_) (some 98)) ?_
 refine ydk 3 ⟨L65 ++ [E27, E28, (101, vb (x38.State_ == x43.State_))], [], H30⟩ ?_
 rcases if_inv hB50 with ⟨h47, hB50⟩ | ⟨h47, hB50⟩
 refine d_eq (congrArg (fun q => (⟨L65 ++ [(99, vb q), (100, vb q), (101, vb q)], [], H30⟩ : St)) h47) ?_
 refine ydk 3 ⟨L81, [], H30⟩ ?_
 refine d_take ⟨L81 ++ [E29], [], H30⟩ (yd (X := X) (⟨L81, [], H30⟩ : St) 3 V39 21 1 false (vi x38.Steps_) (some 105)) ?_
 refine ydk 3 ⟨L83, [], H30⟩ ?_
 refine d_take ⟨L84, [], H30⟩ (yd (X := X) (⟨L83, [], H30⟩ : St) 3 V44 21 1 false (vi x43.Steps_) (some 109)) ?_
 refine ydk 3 ⟨L84 ++ [E31, E32, (112, vb (x38.Steps_ == x43.Steps_))], [], H30⟩ ?_
 rcases if_inv hB50 with ⟨h48, hB50⟩ | ⟨h48, hB50⟩
 refine d_eq (congrArg (fun q => (⟨L84 ++ [(110, vb q), (111, vb q), (112, vb q)], [], H30⟩ : St)) h48) ?_
 refine ydk 3 ⟨L101, [], H30⟩ ?_
 refine d_take ⟨L101 ++ [E33], [], H30⟩ (yd (X := X) (⟨L101, [], H30⟩ : St) 47 V39 23 1 false (.one .bh (.sl 2 (List.map e_api_Event x38.Out_))) (some 116)) ?_
 refine d_take ⟨L101 ++ [E33, E34], [], H30⟩ (yl (⟨L101 ++ [E33], [], H30⟩ : St) x38.Out_ e_api_Event (some 117)) ?_
 refine ydk 3 ⟨L110, [], H30⟩ ?_
 refine d_take ⟨L110 ++ [E35], [], H30⟩ (yd (X := X) (⟨L110, [], H30⟩ : St) 47 V44 23 1 false (.one .bh (.sl 2 (List.map e_api_Event x43.Out_))) (some 121)) ?_
 refine d_take ⟨L110 ++ [E35, E36], [], H30⟩ (yl (⟨L110 ++ [E35], [], H30⟩ : St) x43.Out_ e_api_Event (some 122)) ?_
 refine ydk 3 ⟨[(6, vb ((x38.Out_.length : Int) == (x43.Out_.length : Int)))] ++ L114 ++ [E37], [], H30⟩ ?_
 cases hB50
 exact yde
 refine d_eq (congrArg (fun q => (⟨L84 ++ [(110, vb q), (111, vb q), (112, vb q)], [], H30⟩ : St)) h48) ?_
 refine ydk 13 ⟨[E4] ++ L102 ++ L108, [], H30⟩ ?_
 cases hB50
 exact yde
 refine d_eq (congrArg (fun q => (⟨L65 ++ [(99, vb q), (100, vb q), (101, vb q)], [], H30⟩ : St)) h47) ?_
 refine ydk 24 ⟨[E4] ++ L99 ++ L108, [], H30⟩ ?_
 cases hB50
 exact yde
 refine d_eq (congrArg (fun q => (⟨L47 ++ [(88, vb q), (89, vb q), (90, vb q)], [], H30⟩ : St)) h46) ?_
 refine ydk 35 ⟨[E4] ++ L98 ++ L108, [], H30⟩ ?_
 cases hB50
 exact yde
 refine d_eq (congrArg (fun q => (⟨L43 ++ [(77, vb q), (78, vb q), (79, vb q)], [], H30⟩ : St)) h45) ?_
 refine ydk 46 ⟨[E4] ++ L97 ++ L108, [], H30⟩ ?_
 cases hB50
 exact yde
 refine d_eq (congrArg (fun q => (⟨(L70 r14 r8) ++ [(67, vb q), (68, vb q)], [], H30⟩ : St)) h34) ?_
 refine d_take ⟨(L72 r14 r8), [], H30⟩ (by generalize r8 = qp0; generalize r14 = qp1; cases qp0 <;> cases qp1 <;> kernel_rfl) ?_
 refine d_take ⟨(L72 r14 r8) ++ [(70, vN)], [], H30⟩ (by generalize r8 = qp0; generalize r14 = qp1; cases qp0 <;> cases qp1 <;> kernel_rfl) ?_
 refine d_take ⟨(L72 r14 r8) ++ [(70, vN), (71, vN)], [], H30⟩ (by generalize r8 = qp0; generalize r14 = qp1; cases qp0 <;> cases qp1 <;> kernel_rfl) ?_
 refine d_take ⟨(L72 r14 r8) ++ [(70, vN), (71, vN), (72, vN)], [], H30⟩ (by generalize r8 = qp0; generalize r14 = qp1; cases qp0 <;> cases qp1 <;> kernel_rfl) ?_
 refine d_take ⟨(L75 r14 r8), [], H30⟩ (by generalize r8 = qp0; generalize r14 = qp1; cases qp0 <;> cases qp1 <;> kernel_rfl) ?_
 refine d_take ⟨(L75 r14 r8) ++ [(74, vN)], [], H30⟩ (by generalize r8 = qp0; generalize r14 = qp1; cases qp0 <;> cases qp1 <;> kernel_rfl) ?_
 refine d_take ⟨(L75 r14 r8) ++ [(74, vN), (75, vN)], [], H30⟩ (by generalize r8 = qp0; generalize r14 = qp1; cases qp0 <;> cases qp1 <;> kernel_rfl) ?_
 refine d_take ⟨(L75 r14 r8) ++ [(74, vN), (75, vN), (76, vN)], [], H30⟩ (by generalize r8 = qp0; generalize r14 = qp1; cases qp0 <;> cases qp1 <;> kernel_rfl) ?_
 refine d_take ⟨(L77 r14 r8), [], H30⟩ (by generalize r8 = qp0; generalize r14 = qp1; cases qp0 <;> cases qp1 <;> kernel_rfl) ?_
 refine d_take ⟨(L77 r14 r8) ++ [(78, vF)], [], H30⟩ (by generalize r8 = qp0; generalize r14 = qp1; cases qp0 <;> cases qp1 <;> kernel_rfl) ?_
 refine d_take ⟨(L77 r14 r8) ++ [(78, vF), (79, vF)], [], H30⟩ (by generalize r8 = qp0; generalize r14 = qp1; cases qp0 <;> cases qp1 <;> kernel_rfl) ?_
 refine d_take ⟨(L77 r14 r8) ++ L53, [], H30⟩ (by generalize r8 = qp0; generalize r14 = qp1; cases qp0 <;> cases qp1 <;> kernel_rfl) ?_
 refine d_take ⟨(L77 r14 r8) ++ L53 ++ [(81, vN)], [], H30⟩ (by generalize r8 = qp0; generalize r14 = qp1; cases qp0 <;> cases qp1 <;> kernel_rfl) ?_
 refine d_take ⟨(L77 r14 r8) ++ L55, [], H30⟩ (by generalize r8 = qp0; generalize r14 = qp1; cases qp0 <;> cases qp1 <;> kernel_rfl) ?_
 refine d_take ⟨(L77 r14 r8) ++ L55 ++ [(83, vN)], [], H30⟩ (by generalize r8 = qp0; generalize r14 = qp1; cases qp0 <;> cases qp1 <;> kernel_rfl) ?_
 refine d_take ⟨(L77 r14 r8) ++ L58, [], H30⟩ (by generalize r8 = qp0; generalize r14 = qp1; cases qp0 <;> cases qp1 <;> kernel_rfl) ?_
 refine d_take ⟨(L77 r14 r8) ++ L58 ++ [(85, vN)], [], H30⟩ (by generalize r8 = qp0; generalize r14 = qp1; cases qp0 <;> cases qp1 <;> kernel_rfl) ?_
 refine d_take ⟨(L77 r14 r8) ++ L62, [], H30⟩ (by generalize r8 = qp0; generalize r14 = qp1; cases qp0 <;> cases qp1 <;> kernel_rfl) ?_
 refine d_take ⟨(L77 r14 r8) ++ L62 ++ [(87, vN)], [], H30⟩ (by generalize r8 = qp0; generalize r14 = qp1; cases qp0 <;> cases qp1 <;> kernel_rfl) ?_
 refine d_take ⟨(L103 r14 r8), [], H30⟩ (by generalize r8 = qp0; generalize r14 = qp1; cases qp0 <;> cases qp1 <;> kernel_rfl) ?_
 refine d_take ⟨(L103 r14 r8) ++ [(89, vF)], [], H30⟩ (by generalize r8 = qp0; generalize r14 = qp1; cases qp0 <;> cases qp1 <;> kernel_rfl) ?_
 refine d_take ⟨(L103 r14 r8) ++ [(89, vF), (90, vF)], [], H30⟩ (by generalize r8 = qp0; generalize r14 = qp1; cases qp0 <;> cases qp1 <;> kernel_rfl) ?_
 refine d_take ⟨(L103 r14 r8) ++ L48, [], H30⟩ (by generalize r8 = qp0; generalize r14 = qp1; cases qp0 <;> cases qp1 <;> kernel_rfl) ?_
 refine d_take ⟨(L103 r14 r8) ++ L48 ++ [(92, vN)], [], H30⟩ (by generalize r8 = qp0; generalize r14 = qp1; cases qp0 <;> cases qp1 <;> kernel_rfl) ?_
 refine d_take ⟨(L103 r14 r8) ++ L49, [], H30⟩ (by generalize r8 = qp0; generalize r14 = qp1; cases qp0 <;> cases qp1 <;> kernel_rfl) ?_
 refine d_take ⟨(L103 r14 r8) ++ L49 ++ [(94, vN)], [], H30⟩ (by generalize r8 = qp0; generalize r14 = qp1; cases qp0 <;> cases qp1 <;> kernel_rfl) ?_
 refine d_take ⟨(L103 r14 r8) ++ L51, [], H30⟩ (by generalize r8 = qp0; generalize r14 = qp1; cases qp0 <;> cases qp1 <;> kernel_rfl) ?_
 refine d_take ⟨(L103 r14 r8) ++ L51 ++ [(96, vN)], [], H30⟩ (by generalize r8 = qp0; generalize r14 = qp1; cases qp0 <;> cases qp1 <;> kernel_rfl) ?_
 refine d_take ⟨(L103 r14 r8) ++ L56, [], H30⟩ (by generalize r8 = qp0; generalize r14 = qp1; cases qp0 <;> cases qp1 <;> kernel_rfl) ?_
 refine d_take ⟨(L103 r14 r8) ++ L56 ++ [(98, vN)], [], H30⟩ (by generalize r8 = qp0; generalize r14 = qp1; cases qp0 <;> cases qp1 <;> kernel_rfl) ?_
 refine d_take ⟨(L104 r14 r8), [], H30⟩ (by generalize r8 = qp0; generalize r14 = qp1; cases qp0 <;> cases qp1 <;> kernel_rfl) ?_
 refine d_take ⟨(L104 r14 r8) ++ [E39], [], H30⟩ (by generalize r8 = qp0; generalize r14 = qp1; cases qp0 <;> cases qp1 <;> kernel_rfl) ?_
 refine d_take ⟨(L104 r14 r8) ++ [E39, (101, vF)], [], H30⟩ (by generalize r8 = qp0; generalize r14 = qp1; cases qp0 <;> cases qp1 <;> kernel_rfl) ?_
 refine d_take ⟨(L104 r14 r8) ++ L50, [], H30⟩ (by generalize r8 = qp0; generalize r14 = qp1; cases qp0 <;> cases qp1 <;> kernel_rfl) ?_
 refine d_take ⟨(L104 r14 r8) ++ L52, [], H30⟩ (by generalize r8 = qp0; generalize r14 = qp1; cases qp0 <;> cases qp1 <;> kernel_rfl) ?_
 refine d_take ⟨(L104 r14 r8) ++ L54, [], H30⟩ (by generalize r8 = qp0; generalize r14 = qp1; cases qp0 <;> cases qp1 <;> kernel_rfl) ?_
 refine d_take ⟨(L104 r14 r8) ++ L57, [], H30⟩ (by generalize r8 = qp0; generalize r14 = qp1; cases qp0 <;> cases qp1 <;> kernel_rfl) ?_
 refine d_take ⟨(L104 r14 r8) ++ L61, [], H30⟩ (by generalize r8 = qp0; generalize r14 = qp1; cases qp0 <;> cases qp1 <;> kernel_rfl) ?_
 refine d_take ⟨(L104 r14 r8) ++ L64, [], H30⟩ (by generalize r8 = qp0; generalize r14 = qp1; cases qp0 <;> cases qp1 <;> kernel_rfl) ?_
 refine d_take ⟨(L104 r14 r8) ++ L66, [], H30⟩ (by generalize r8 = qp0; generalize r14 = qp1; cases qp0 <;> cases qp1 <;> kernel_rfl) ?_
 refine d_take ⟨(L104 r14 r8) ++ L68, [], H30⟩ (by generalize r8 = qp0; generalize r14 = qp1; cases qp0 <;> cases qp1 <;> kernel_rfl) ?_
 refine d_take ⟨(L96 r14 r8), [], H30⟩ (by generalize r8 = qp0; generalize r14 = qp1; cases qp0 <;> cases qp1 <;> kernel_rfl) ?_
 refine d_take ⟨(L96 r14 r8) ++ [E38], [], H30⟩ (by generalize r8 = qp0; generalize r14 = qp1; cases qp0 <;> cases qp1 <;> kernel_rfl) ?_
 refine d_take ⟨(L96 r14 r8) ++ L67, [], H30⟩ (by generalize r8 = qp0; generalize r14 = qp1; cases qp0 <;> cases qp1 <;> kernel_rfl) ?_
 refine d_take ⟨(L96 r14 r8) ++ L69, [], H30⟩ (by generalize r8 = qp0; generalize r14 = qp1; cases qp0 <;> cases qp1 <;> kernel_rfl) ?_
 refine d_take ⟨(L96 r14 r8) ++ L71, [], H30⟩ (by generalize r8 = qp0; generalize r14 = qp1; cases qp0 <;> cases qp1 <;> kernel_rfl) ?_
 refine d_take ⟨(L96 r14 r8) ++ L73, [], H30⟩ (by generalize r8 = qp0; generalize r14 = qp1; cases qp0 <;> cases qp1 <;> kernel_rfl) ?_
 refine d_take ⟨(L96 r14 r8) ++ L76, [], H30⟩ (by generalize r8 = qp0; generalize r14 = qp1; cases qp0 <;> cases qp1 <;> kernel_rfl) ?_
 refine d_take ⟨(L96 r14 r8) ++ L79, [], H30⟩ (by generalize r8 = qp0; generalize r14 = qp1; cases qp0 <;> cases qp1 <;> kernel_rfl) ?_
 refine d_take ⟨(L96 r14 r8) ++ L82, [], H30⟩ (by generalize r8 = qp0; generalize r14 = qp1; cases qp0 <;> cases qp1 <;> kernel_rfl) ?_
 refine d_take ⟨(L96 r14 r8) ++ L86, [], H30⟩ (by generalize r8 = qp0; generalize r14 = qp1; cases qp0 <;> cases qp1 <;> kernel_rfl) ?_
 refine d_take ⟨(L96 r14 r8) ++ L88, [], H30⟩ (by generalize r8 = qp0; generalize r14 = qp1; cases qp0 <;> cases qp1 <;> kernel_rfl) ?_
 refine d_take ⟨(L96 r14 r8) ++ L91, [], H30⟩ (by generalize r8 = qp0; generalize r14 = qp1; cases qp0 <;> cases qp1 <;> kernel_rfl) ?_
 refine d_take ⟨(L96 r14 r8) ++ L94, [], H30⟩ (by generalize r8 = qp0; generalize r14 = qp1; cases qp0 <;> cases qp1 <;> kernel_rfl) ?_
 refine d_take ⟨(L96 r14 r8) ++ L100, [], H30⟩ (by generalize r8 = qp0; generalize r14 = qp1; cases qp0 <;> cases qp1 <;> kernel_rfl) ?_
 refine d_take ⟨(L96 r14 r8) ++ L108, [], H30⟩ (by generalize r8 = qp0; generalize r14 = qp1; cases qp0 <;> cases qp1 <;> kernel_rfl) ?_
 refine d_take ⟨[E4] ++ (L96 r14 r8) ++ L108, [], H30⟩ (by generalize r8 = qp0; generalize r14 = qp1; cases qp0 <;> cases qp1 <;> kernel_rfl) ?_
 cases hB50
 exact yde
 refine w_ret ?_
 obtain ⟨e0, e1⟩ := some2_inv hF
 subst e0
 subst e1
 exact yi (vb w49)
noncomputable def cpu_Cpu_Setup (H : Heap) (p0 : Ptr) : Option (T_cpu_Setup) :=
  (p0).bnd fun i1 o2 =>
  bind1 (get_cpu_Cpu H i1 o2) fun x4 =>
  some x4.setup_
noncomputable def ref03_Load  (p0 : T_ref03_Mem) (p1 : Int) : Option (Int × Int) :=
  if ((Int.tmod p1 4) != 0) = true then (some (0, 30))
  else (if (decide ((IntKind.wrap .i64 (IntKind.wrap .u32 (Int.tdiv p1 4))) ≥ (p0.W_.length : Int))) = true then (some (0, 31))
  else (bind1 (gi p0.W_ (IntKind.wrap .u32 (Int.tdiv p1 4))) fun x3 =>
  some (x3, 0)))
noncomputable def ref03_Fetch  (p0 : T_ref03_Mem) (p1 : Int) : Option (Int × Int) :=
  bind2 (ref03_Load p0 p1) fun r1 r2 =>
  if ((r2 == 0) && (decide (p1 ≥ (p0.Ends_.g 0)))) = true then (some (0, 31))
  else (some (r1, r2))
noncomputable def ref04_fault  (p0 : T_ref04_Cpu) (p1 : Int) : Option (T_ref04_Cpu) :=
  some (T_ref04_Cpu.mk p0.R_ p0.PC_ p0.EPC_ p0.Cause_ 2 p1 p0.Steps_ p0.Taken_ p0.Out_ p0.Entry_ p0.Vector_ p0.Guard_ p0.Limit_ p0.Input_)
noncomputable def ref02_Shape_j6 (p0 : Int) (j14 : Bool) : Option (Int) :=
  if j14 = true then (some 7)
  else (if (p0 == 28) = true then (some 8)
  else (some (-1)))
noncomputable def ref02_Shape_j5 (p0 : Int) (j12 : Bool) : Option (Int) :=
  if j12 = true then (some 6)
  else (if (p0 == 22) = true then (ref02_Shape_j6 p0 (p0 == 22))
  else (ref02_Shape_j6 p0 (p0 == 23)))
noncomputable def ref02_Shape_j7 (p0 : Int) (j19 : Bool) : Option (Int) :=
  ref02_Shape_j5 p0 j19
noncomputable def ref02_Shape_j8 (p0 : Int) (j21 : Bool) : Option (Int) :=
  ref02_Shape_j7 p0 j21
noncomputable def ref02_Shape_j9 (p0 : Int) (j23 : Bool) : Option (Int) :=
  ref02_Shape_j8 p0 j23
noncomputable def ref02_Shape_j10 (p0 : Int) (j25 : Bool) : Option (Int) :=
  ref02_Shape_j9 p0 j25
noncomputable def ref02_Shape_j4 (p0 : Int) (j10 : Bool) : Option (Int) :=
  if j10 = true then (some 4)
  else (if (p0 == 24) = true then (ref02_Shape_j5 p0 (p0 == 24))
  else (if (p0 == 25) = true then (ref02_Shape_j7 p0 (p0 == 25))
  else (if (p0 == 27) = true then (ref02_Shape_j8 p0 (p0 == 27))
  else (if (p0 == 29) = true then (ref02_Shape_j9 p0 (p0 == 29))
  else (if (p0 == 31) = true then (ref02_Shape_j10 p0 (p0 == 31))
  else (ref02_Shape_j10 p0 (p0 == 32)))))))
noncomputable def ref02_Shape_j11 (p0 : Int) (j28 : Bool) : Option (Int) :=
  ref02_Shape_j4 p0 j28
noncomputable def ref02_Shape_j3 (p0 : Int) (j8 : Bool) : Option (Int) :=
  if j8 = true then (some 3)
  else (if (p0 == 4) = true then (ref02_Shape_j4 p0 (p0 == 4))
  else (if (p0 == 26) = true then (ref02_Shape_j11 p0 (p0 == 26))
  else (ref02_Shape_j11 p0 (p0 == 34))))
noncomputable def ref02_Shape_j12 (p0 : Int) (j31 : Bool) : Option (Int) :=
  ref02_Shape_j3 p0 j31
noncomputable def ref02_Shape_j2 (p0 : Int) (j6 : Bool) : Option (Int) :=
  if j6 = true then (some 2)
  else (if (p0 == 5) = true then (ref02_Shape_j3 p0 (p0 == 5))
  else (if (p0 == 18) = true then (ref02_Shape_j12 p0 (p0 == 18))
  else (ref02_Shape_j12 p0 (p0 == 19))))
noncomputable def ref02_Shape_j13 (p0 : Int) (j34 : Bool) : Option (Int) :=
  ref02_Shape_j2 p0 j34
noncomputable def ref02_Shape_j1 (p0 : Int) (j4 : Bool) : Option (Int) :=
  if j4 = true then (some 1)
  else (if (p0 == 3) = true then (ref02_Shape_j2 p0 (p0 == 3))
  else (if (p0 == 30) = true then (ref02_Shape_j13 p0 (p0 == 30))
  else (ref02_Shape_j13 p0 (p0 == 33))))
noncomputable def ref02_Shape_j14 (p0 : Int) (j37 : Bool) : Option (Int) :=
  ref02_Shape_j1 p0 j37
noncomputable def ref02_Shape  (p0 : Int) : Option (Int) :=
  if ((decide (p0 ≥ 6)) && (decide (p0 ≤ 17))) = true then (some 5)
  else (if (p0 == 1) = true then (some 0)
  else (if (p0 == 2) = true then (ref02_Shape_j1 p0 (p0 == 2))
  else (if (p0 == 20) = true then (ref02_Shape_j14 p0 (p0 == 20))
  else (ref02_Shape_j14 p0 (p0 == 21)))))
noncomputable def ref02_has  (p0 : Int) : Option (Bool × Bool × Bool) :=
  some (((decide (p0 ≥ 1)) && (decide (p0 ≤ 6))), ((decide (p0 ≥ 3)) && (decide (p0 ≤ 5))), (p0 == 5))
noncomputable def ref01_Power_L1 (p0 : Int) (a1 : Int) (a2 : Int) : Option ((Int × Int) ⊕ ((Int))) :=
  if (decide (a2 < p0)) = true then (some (Sum.inl ((IntKind.wrap .i64 (a1 * 2)), (IntKind.wrap .i64 (a2 + 1)))))
  else (some (Sum.inr a1))
noncomputable def ref01_Power  (p0 : Int) : Option (Int) :=
  bind1 (loopO (fun (x : (Int × Int)) => ref01_Power_L1 p0 x.1 x.2) (1, 0)) (fun b6 =>
  some b6)
noncomputable def ref01_Round_j2 (j2 : Int) : Option (Int) :=
  some (IntKind.wrap .i32 j2)
noncomputable def ref01_Round_j1 (j1 : Int) : Option (Int) :=
  if (decide (j1 ≥ 2147483648)) = true then (ref01_Round_j2 (IntKind.wrap .i64 (j1 - 4294967296)))
  else (ref01_Round_j2 j1)
noncomputable def ref01_Round  (p0 : Int) : Option (Int) :=
  if (decide ((Int.tmod p0 4294967296) < 0)) = true then (ref01_Round_j1 (IntKind.wrap .i64 ((Int.tmod p0 4294967296) + 4294967296)))
  else (ref01_Round_j1 (Int.tmod p0 4294967296))
noncomputable def ref01_Sext_j1 (j6 : Int) : Option (Int) :=
  bind1 (ref01_Round j6) fun r7 =>
  some r7
noncomputable def ref01_Sext  (p0 : Int) (p1 : Int) : Option (Int) :=
  if (decide (p1 < 1)) = true then (some 0)
  else (bind1 (ref01_Power (if 32 < p1 then 32 else p1)) fun r2 =>
  bind1 (remI .i64 (IntKind.wrap .i64 p0) r2) fun v4 =>
  if (decide (v4 ≥ (IntKind.wrap .i64 (Int.tdiv r2 2)))) = true then (ref01_Sext_j1 (IntKind.wrap .i64 (v4 - r2)))
  else (ref01_Sext_j1 v4))
noncomputable def ref02_Check_j2 (p0 : T_ref02_Instr) (j26 : Int) (j27 : Int) : Option (Int) :=
  if ((decide (p0.Imm_ < j26)) || (decide (p0.Imm_ > j27))) = true then (some 20)
  else (some 0)
noncomputable def ref02_Check_j4 (p0 : T_ref02_Instr) (j32 : Int) (j33 : Int) : Option (Int) :=
  ref02_Check_j2 p0 j32 j33
noncomputable def ref02_Check_j5 (p0 : T_ref02_Instr) (j35 : Int) (j36 : Int) : Option (Int) :=
  ref02_Check_j4 p0 j35 j36
noncomputable def ref02_Check_j3 (p0 : T_ref02_Instr) (r1 : Int) (j31 : Bool) : Option (Int) :=
  if j31 = true then (ref02_Check_j4 p0 0 65535)
  else (if (r1 == 7) = true then (ref02_Check_j5 p0 (-8388608) 8388607)
  else (ref02_Check_j5 p0 0 0))
noncomputable def ref02_Check_j6 (p0 : T_ref02_Instr) (r1 : Int) (j39 : Bool) : Option (Int) :=
  ref02_Check_j3 p0 r1 j39
noncomputable def ref02_Check_j1 (p0 : T_ref02_Instr) (r1 : Int) (j25 : Bool) : Option (Int) :=
  if j25 = true then (ref02_Check_j2 p0 (-32768) 32767)
  else (if (r1 == 2) = true then (ref02_Check_j3 p0 r1 (r1 == 2))
  else (if (r1 == 4) = true then (ref02_Check_j6 p0 r1 (r1 == 4))
  else (ref02_Check_j6 p0 r1 (r1 == 8))))
noncomputable def ref02_Check  (p0 : T_ref02_Instr) : Option (Int) :=
  bind1 (ref02_Shape p0.Op_) fun r1 =>
  if (decide (r1 < 0)) = true then (some 21)
  else (bind3 (ref02_has r1) fun r4 r5 r6 =>
  if ((decide (p0.A_ < 0)) || ((decide (p0.A_ > 15)) || ((decide (p0.B_ < 0)) || ((decide (p0.B_ > 15)) || ((decide (p0.C_ < 0)) || ((decide (p0.C_ > 15)) || (if (!r4) = true then ((p0.A_ != 0) || (if (!r5) = true then ((p0.B_ != 0) || ((!r6) && (p0.C_ != 0))) else ((!r6) && (p0.C_ != 0)))) else (if (!r5) = true then ((p0.B_ != 0) || ((!r6) && (p0.C_ != 0))) else ((!r6) && (p0.C_ != 0)))))))))) = true then (some 20)
  else (if (r1 == 1) = true then (ref02_Check_j1 p0 r1 (r1 == 1))
  else (ref02_Check_j1 p0 r1 (r1 == 3))))
noncomputable def ref02_Encode  (p0 : T_ref02_Instr) : Option (Int × Int) :=
  bind1 (ref02_Check p0) fun r1 =>
  if (r1 != 0) = true then (some (0, r1))
  else (bind1 (ref02_Shape p0.Op_) fun r4 =>
  if (r4 == 7) = true then (some ((IntKind.wrap .u32 (IntKind.wrap .i64 ((IntKind.wrap .i64 (p0.Op_ * 16777216)) + (Int.tmod (IntKind.wrap .i64 (p0.Imm_ + 16777216)) 16777216)))), 0))
  else (some ((IntKind.wrap .u32 (IntKind.wrap .i64 ((IntKind.wrap .i64 ((IntKind.wrap .i64 ((IntKind.wrap .i64 ((IntKind.wrap .i64 (p0.Op_ * 16777216)) + (IntKind.wrap .i64 (p0.A_ * 1048576)))) + (IntKind.wrap .i64 (p0.B_ * 65536)))) + (Int.tmod (IntKind.wrap .i64 (p0.Imm_ + 65536)) 65536))) + p0.C_))), 0)))
noncomputable def ref02_Decode_j5 (p0 : Int) (j11 : T_ref02_Instr) : Option (T_ref02_Instr × Int) :=
  bind2 (ref02_Encode j11) fun r12 r13 =>
  if ((r13 != 0) || (r12 != p0)) = true then (some ((T_ref02_Instr.mk 0 0 0 0 0), 21))
  else (some (j11, 0))
noncomputable def ref02_Decode_j7 (p0 : Int) (j21 : T_ref02_Instr) : Option (T_ref02_Instr × Int) :=
  ref02_Decode_j5 p0 j21
noncomputable def ref02_Decode_j8 (p0 : Int) (j23 : T_ref02_Instr) : Option (T_ref02_Instr × Int) :=
  ref02_Decode_j7 p0 j23
noncomputable def ref02_Decode_j6 (p0 : Int) (j9 : T_ref02_Instr) (r1 : Int) (j20 : Bool) : Option (T_ref02_Instr × Int) :=
  if j20 = true then (ref02_Decode_j7 p0 (T_ref02_Instr.mk j9.Op_ j9.A_ j9.B_ j9.C_ (IntKind.wrap .i64 (Int.tmod p0 65536))))
  else (if (r1 == 7) = true then (bind1 (ref01_Sext p0 24) fun r25 =>
  ref02_Decode_j8 p0 (T_ref02_Instr.mk j9.Op_ j9.A_ j9.B_ j9.C_ (IntKind.wrap .i64 r25)))
  else (ref02_Decode_j8 p0 j9))
noncomputable def ref02_Decode_j9 (p0 : Int) (j9 : T_ref02_Instr) (r1 : Int) (j28 : Bool) : Option (T_ref02_Instr × Int) :=
  ref02_Decode_j6 p0 j9 r1 j28
noncomputable def ref02_Decode_j4 (p0 : Int) (j9 : T_ref02_Instr) (r1 : Int) (j10 : Bool) : Option (T_ref02_Instr × Int) :=
  if j10 = true then (bind1 (ref01_Sext p0 16) fun r18 =>
  ref02_Decode_j5 p0 (T_ref02_Instr.mk j9.Op_ j9.A_ j9.B_ j9.C_ (IntKind.wrap .i64 r18)))
  else (if (r1 == 2) = true then (ref02_Decode_j6 p0 j9 r1 (r1 == 2))
  else (if (r1 == 4) = true then (ref02_Decode_j9 p0 j9 r1 (r1 == 4))
  else (ref02_Decode_j9 p0 j9 r1 (r1 == 8))))
noncomputable def ref02_Decode_j3 (r1 : Int) (p0 : Int) (j9 : T_ref02_Instr) : Option (T_ref02_Instr × Int) :=
  if (r1 == 1) = true then (ref02_Decode_j4 p0 j9 r1 (r1 == 1))
  else (ref02_Decode_j4 p0 j9 r1 (r1 == 3))
noncomputable def ref02_Decode_j2 (r5 : Bool) (r1 : Int) (p0 : Int) (j8 : T_ref02_Instr) : Option (T_ref02_Instr × Int) :=
  if r5 = true then (ref02_Decode_j3 r1 p0 (T_ref02_Instr.mk j8.Op_ j8.A_ j8.B_ (IntKind.wrap .i64 (Int.tmod p0 16)) j8.Imm_))
  else (ref02_Decode_j3 r1 p0 j8)
noncomputable def ref02_Decode_j1 (r4 : Bool) (r5 : Bool) (r1 : Int) (p0 : Int) (j7 : T_ref02_Instr) : Option (T_ref02_Instr × Int) :=
  if r4 = true then (ref02_Decode_j2 r5 r1 p0 (T_ref02_Instr.mk j7.Op_ j7.A_ (IntKind.wrap .i64 (Int.tmod (IntKind.wrap .u32 (Int.tdiv p0 65536)) 16)) j7.C_ j7.Imm_))
  else (ref02_Decode_j2 r5 r1 p0 j7)
noncomputable def ref02_Decode  (p0 : Int) : Option (T_ref02_Instr × Int) :=
  bind1 (ref02_Shape (IntKind.wrap .i64 (IntKind.wrap .u32 (Int.tdiv p0 16777216)))) fun r1 =>
  bind3 (ref02_has r1) fun r3 r4 r5 =>
  if r3 = true then (ref02_Decode_j1 r4 r5 r1 p0 (T_ref02_Instr.mk (IntKind.wrap .i64 (IntKind.wrap .u32 (Int.tdiv p0 16777216))) (IntKind.wrap .i64 (Int.tmod (IntKind.wrap .u32 (Int.tdiv p0 1048576)) 16)) 0 0 0))
  else (ref02_Decode_j1 r4 r5 r1 p0 (T_ref02_Instr.mk (IntKind.wrap .i64 (IntKind.wrap .u32 (Int.tdiv p0 16777216))) 0 0 0 0))
noncomputable def ref01_Times  (p0 : Int) (p1 : Int) : Option (Int) :=
  bind1 (ref01_Round (IntKind.wrap .i64 ((IntKind.wrap .i64 p0) * (IntKind.wrap .i64 p1)))) fun r1 =>
  some r1
noncomputable def ref01_Div_j1 (j5 : Int) : Option (Int × Bool) :=
  bind1 (ref01_Round j5) fun r6 =>
  some (r6, true)
noncomputable def ref01_Div  (p0 : Int) (p1 : Int) : Option (Int × Bool) :=
  if (p1 == 0) = true then (some (0, false))
  else (bind1 (quoI .i64 (IntKind.wrap .i64 p0) (IntKind.wrap .i64 p1)) fun v2 =>
  if (((IntKind.wrap .i64 (v2 * (IntKind.wrap .i64 p1))) != (IntKind.wrap .i64 p0)) && ((decide ((IntKind.wrap .i64 p0) < 0)) != (decide ((IntKind.wrap .i64 p1) < 0)))) = true then (ref01_Div_j1 (IntKind.wrap .i64 (v2 - 1)))
  else (ref01_Div_j1 v2))
noncomputable def ref01_Mod  (p0 : Int) (p1 : Int) : Option (Int × Bool) :=
  bind2 (ref01_Div p0 p1) fun r1 r2 =>
  if (!r2) = true then (some (0, false))
  else (bind1 (ref01_Round (IntKind.wrap .i64 ((IntKind.wrap .i64 p0) - (IntKind.wrap .i64 ((IntKind.wrap .i64 r1) * (IntKind.wrap .i64 p1)))))) fun r5 =>
  some (r5, true))
noncomputable def ref04_is  (p0 : Bool) : Option (Int) :=
  if p0 = true then (some 1)
  else (some 0)
noncomputable def ref04_reckon  (p0 : Int) (p1 : Int) (p2 : Int) : Option (Int × Bool) :=
  if (p0 == 6) = true then (some ((IntKind.wrap .u32 (p1 + p2)), true))
  else (if (p0 == 7) = true then (some ((IntKind.wrap .u32 (p1 - p2)), true))
  else (if (p0 == 8) = true then (bind1 (ref01_Times (IntKind.wrap .i32 p1) (IntKind.wrap .i32 p2)) fun r4 =>
  some ((IntKind.wrap .u32 r4), true))
  else (if (p0 == 9) = true then (bind2 (ref01_Div (IntKind.wrap .i32 p1) (IntKind.wrap .i32 p2)) fun r7 r8 =>
  some ((IntKind.wrap .u32 r7), r8))
  else (if (p0 == 10) = true then (bind2 (ref01_Mod (IntKind.wrap .i32 p1) (IntKind.wrap .i32 p2)) fun r11 r12 =>
  some ((IntKind.wrap .u32 r11), r12))
  else (if (p0 == 11) = true then (some ((bitsOf .and .u32 p1 p2), true))
  else (if (p0 == 12) = true then (some ((bitsOf .or .u32 p1 p2), true))
  else (if (p0 == 13) = true then (some ((bitsOf .xor .u32 p1 p2), true))
  else (if (p0 == 14) = true then (bind1 (ref04_is (decide ((IntKind.wrap .i32 p1) < (IntKind.wrap .i32 p2)))) fun r18 =>
  some (r18, true))
  else (if (p0 == 15) = true then (bind1 (ref04_is (decide ((IntKind.wrap .i32 p1) ≤ (IntKind.wrap .i32 p2)))) fun r21 =>
  some (r21, true))
  else (if (p0 == 16) = true then (bind1 (ref04_is (p1 == p2)) fun r24 =>
  some (r24, true))
  else (if (p0 == 17) = true then (bind1 (ref04_is (p1 != p2)) fun r27 =>
  some (r27, true))
  else (some (0, true)))))))))))))
end Go.Proofs.Abs
