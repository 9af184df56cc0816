/- The law EmitPlays: whatever the input, it answers true. No conditions. (Part EmitPlaysF3 of its proof.) -/
import Derived.Test.YtjaofdkkhhaikaaEmitPlaysF2
set_option linter.unusedVariables false
set_option linter.unusedSimpArgs false
set_option linter.unusedSectionVars false
/- Printed by gen (walk.py). -/
namespace Go.Proofs.Abs
open Go Go.Proofs
set_option linter.unusedVariables false
set_option maxRecDepth 100000
set_option maxHeartbeats 0
noncomputable def law17_EmitPlays_L1 (r6 : T_ref17_Code) (r22 : T_emit_Result) (a37 : Int) : Option ((Int) ⊕ (Unit ⊕ Unit)) :=
  if (decide (a37 < (r6.Fixups_.length : Int))) = true then (bind1 (gi r22.Fixups_ a37) fun x39 =>
  bind1 (gi r6.Fixups_ a37) fun x41 =>
  if (!(eq_api_Fixup x39 x41)) = true then (some (Sum.inr (Sum.inr ())))
  else (some (Sum.inl (IntKind.wrap .i64 (a37 + 1)))))
  else (some (Sum.inr (Sum.inl ())))
noncomputable def law17_EmitPlays (H : Heap) (p0 : (List T_law17_Op)) : Option (Heap × Bool) :=
  bind2 (law17_awake H) fun H3 r1 =>
  if (!r1) = true then (some (H3, false))
  else (bind4 (law17_played H3 p0) fun H9 r5 r6 r7 =>
  bind2 (if (!r7) = true then (some (H9, true)) else (bind2 (emit_Code_Most H9 r5) fun H13 r11 =>
  if (r11 != r6.Most_) = true then (some (H13, true)) else (bind2 (emit_Code_Most H13 r5) fun H17 r15 =>
  some (H17, (r15 != r6.Depth_))))) fun H19 w18 =>
  if w18 = true then (some (H19, false))
  else (bind3 (emit_Code_Finish H19 r5) fun H25 r22 r23 =>
  if (r6.Err_ != 0) = true then (some (H25, ((r23 == r6.Err_) && ((r22.Words_.length : Int) == 0))))
  else (bind1 (if (r23 != 0) = true then (some true) else (bind1 (ref17_Words r6) fun r29 =>
  bind1 (ref01_Words r22.Words_ r29) fun r31 =>
  if (!r31) = true then (some true) else (some ((r22.Fixups_.length : Int) != (r6.Fixups_.length : Int))))) fun w34 =>
  if w34 = true then (some (H25, false))
  else (bind1 (loopO (fun (x : (Int)) => law17_EmitPlays_L1 r6 r22 x) 0) (sum2 (fun (_ : Unit) =>
  some (H25, true)) (fun (_ : Unit) =>
  some (H25, false)))))))
theorem ok_law17_EmitPlays (H : Heap) {p0 : (List T_law17_Op)} {ra : Bool} {Hr : Heap} (hF : law17_EmitPlays H p0 = some (Hr, ra)) : evS X 3 [.one .ro (.sl 10 (List.map e_law17_Op p0))] H = some (.one .top (.bool ra), Hr) := by
 let E1 : EN := (0, .one .ro (.sl 10 (List.map e_law17_Op p0)))
 let E2 : EN := (2, vF)
 let E4 : EN := (12, .one .ro (.sl 10 (List.map e_law17_Op p0)))
 let E6 : EN := (22, vl 4 6)
 let E10 : EN := (29, vl 4 5)
 let L31 : List EN := [(4, vl 4 0), (6, vl 6 0)]
 let L42 : List EN := [(60, vT), (61, vT), (62, vN)]
 let L46 : List EN := L42 ++ [(63, vN), (64, vN)]
 let L52 : List EN := [(29, vN), (30, vN)]
 let L54 : List EN := L46 ++ [(65, vN), (66, vN)]
 let L61 : List EN := [(28, vN)] ++ L52 ++ [(31, vN)]
 let L62 : List EN := L54 ++ [(67, vN), (68, vN)]
 let S66 : St := ⟨[E1], [], H⟩
 refine yf Try.func3 false S66 ?_
 unfold law17_EmitPlays at hF
 refine ysg S66 ?_
 refine w_seq ?_
 refine w_seq ?_
 obtain ⟨H3, r1, c2, hF⟩ := bind2_inv hF
 refine w_regO ⟨[E1, (10, vb (!r1))], [], H3⟩ ?_ ?_
 refine o_one ⟨[E1, (9, vb r1)], [], H3⟩ (yc (some 9) false false S66 (ok_law17_awake H c2)) ?_
 refine yr 1 ⟨[E1, (9, vb r1), (10, vb (!r1))], [], H3⟩ ?_
 exact ye
 rcases if_inv hF with ⟨h4, hF⟩ | ⟨h4, hF⟩
 refine yT h4 ⟨[], [], H3⟩ ?_
 refine ysg ⟨[E2], [], H3⟩ ?_
 refine w_ret ?_
 obtain ⟨e0, e1⟩ := some2_inv hF
 subst e0
 subst e1
 exact yi (vF)
 refine yF h4 ⟨[E1], [], H3⟩ ?_
 refine w_skip ?_
 refine w_seq ?_
 obtain ⟨H9, r5, r6, r7, c8, hF⟩ := bind4_inv hF
 let B3 : EB := (4, (m1_ref17_Code r6))
 let E5 : Ptr → EN := fun z0 => (13, .tup [vp z0, .agg (m1_ref17_Code r6), vb r7])
 let E7 : EN := (23, vi r6.Most_)
 let E11 : EN := (30, vi r6.Depth_)
 let E14 : Ptr → EN := fun z0 => (34, vp z0)
 let E21 : EN := (67, vi (r6.Fixups_.length : Int))
 let E24 : EN := (73, vi (r6.Fixups_.length : Int))
 let E28 : EN := (83, .one (.own 0) (.sl 4 (List.map e_api_Fixup r6.Fixups_)))
 let L34 : Ptr → List EN := fun z0 => [(3, vp z0), (4, vl 4 0)]
 let L35 : Ptr → List EN := fun z0 => (L34 z0) ++ [(5, vb r7), (17, vb r7)]
 let L39 : Ptr → List EN := fun z0 => (L35 z0) ++ [(18, vF), (19, vF), (20, vp z0)]
 let L45 : Ptr → List EN := fun z0 => (L35 z0) ++ [(18, vT), (19, vT), (20, vN)]
 let L49 : Ptr → List EN := fun z0 => (L45 z0) ++ [(21, vN), (22, vN), (23, vN), (24, vN)]
 let L58 : Ptr → List EN := fun z0 => (L49 z0) ++ [(25, vT), (26, vT), (27, vN)]
 refine w_regO ⟨(L34 r5) ++ [(5, vb r7)], [B3], H9⟩ ?_ ?_
 refine yr 1 ⟨[E1, E4], [], H3⟩ ?_
 refine o_one ⟨[E1, E4, (E5 r5)], [], H9⟩ (yc (some 13) false false (⟨[E1, E4], [], H3⟩ : St) (ok_law17_played H3 c8) (hr := (by generalize r5 = qp0; cases qp0 <;> kernel_rfl)) (hs := (by generalize r5 = qp0; cases qp0 <;> kernel_rfl))) ?_
 refine yr 8 ⟨[E1] ++ (L34 r5) ++ [(5, vb r7), (11, .tup [vp r5, .agg (m1_ref17_Code r6), vb r7]), E4, (E5 r5), (14, vp r5), (15, .agg (m1_ref17_Code r6)), (16, vb r7)], [B3], H9⟩ ?_ (h := (by generalize r5 = qp0; cases qp0 <;> kernel_rfl))
 exact ye
 refine w_seq ?_
 refine w_seq ?_
 obtain ⟨H19, w18, hB20, hF⟩ := bind2_inv hF
 refine w_regD (.take 0 (.take 1 (.take 2 (.take 3 (.take 5 (.take 6 (.last 4 (.take 7 (.take 8 (.take 9 (.take 10 (.take 12 (.take 13 (.last 11 (.take 14 (.take 15 .done)))))))))))))))) (by kernel_rfl) (⟨(L34 r5) ++ [(32, vb w18)], [B3], H19⟩ : St) ?_ ?_
 refine d_take ⟨(L35 r5), [B3], H9⟩ (by generalize r5 = qp0; cases qp0 <;> kernel_rfl) ?_
 refine d_take ⟨(L35 r5) ++ [(18, vb (!r7))], [B3], H9⟩ (by generalize r5 = qp0; cases qp0 <;> kernel_rfl) ?_
 refine d_take ⟨(L35 r5) ++ [(18, vb (!r7)), (19, vb (!r7))], [B3], H9⟩ (by generalize r5 = qp0; cases qp0 <;> kernel_rfl) ?_
 rcases if_inv hB20 with ⟨h10, hB20⟩ | ⟨h10, hB20⟩
 refine d_eq (congrArg (fun q => (⟨(L35 r5) ++ [(18, vb q), (19, vb q)], [B3], H9⟩ : St)) h10) ?_
 refine d_take ⟨(L45 r5), [B3], H9⟩ (by generalize r5 = qp0; cases qp0 <;> kernel_rfl) ?_
 refine d_take ⟨(L45 r5) ++ [(22, vN)], [B3], H9⟩ (by generalize r5 = qp0; cases qp0 <;> kernel_rfl) ?_
 refine d_take ⟨(L45 r5) ++ [(22, vN), (23, vN)], [B3], H9⟩ (by generalize r5 = qp0; cases qp0 <;> kernel_rfl) ?_
 refine d_last ⟨(L45 r5) ++ [(21, vN), (22, vN), (23, vN)], [B3], H9⟩ (by generalize r5 = qp0; cases qp0 <;> kernel_rfl) ?_
 refine d_take ⟨(L49 r5), [B3], H9⟩ (by generalize r5 = qp0; cases qp0 <;> kernel_rfl) ?_
 refine d_take ⟨(L49 r5) ++ [(25, vT)], [B3], H9⟩ (by generalize r5 = qp0; cases qp0 <;> kernel_rfl) ?_
 refine d_take ⟨(L49 r5) ++ [(25, vT), (26, vT)], [B3], H9⟩ (by generalize r5 = qp0; cases qp0 <;> kernel_rfl) ?_
 refine d_take ⟨(L58 r5), [B3], H9⟩ (by generalize r5 = qp0; cases qp0 <;> kernel_rfl) ?_
 refine d_take ⟨(L58 r5) ++ [(29, vN)], [B3], H9⟩ (by generalize r5 = qp0; cases qp0 <;> kernel_rfl) ?_
 refine d_take ⟨(L58 r5) ++ L52, [B3], H9⟩ (by generalize r5 = qp0; cases qp0 <;> kernel_rfl) ?_
 refine d_last ⟨(L58 r5) ++ [(28, vN)] ++ L52, [B3], H9⟩ (by generalize r5 = qp0; cases qp0 <;> kernel_rfl) ?_
 refine d_take ⟨(L58 r5) ++ L61, [B3], H9⟩ (by generalize r5 = qp0; cases qp0 <;> kernel_rfl) ?_
 refine d_take ⟨(L58 r5) ++ L61 ++ [(32, vT)], [B3], H9⟩ (by generalize r5 = qp0; cases qp0 <;> kernel_rfl) ?_
 cases hB20
 exact yde
 refine d_eq (congrArg (fun q => (⟨(L35 r5) ++ [(18, vb q), (19, vb q)], [B3], H9⟩ : St)) h10) ?_
 refine d_take ⟨(L39 r5), [B3], H9⟩ (by generalize r5 = qp0; cases qp0 <;> kernel_rfl) ?_
 refine d_take ⟨(L39 r5) ++ [E6], [B3], H9⟩ (by generalize r5 = qp0; cases qp0 <;> kernel_rfl) ?_
 refine d_take ⟨(L39 r5) ++ [E6, E7], [B3], H9⟩ (by generalize r5 = qp0; cases qp0 <;> kernel_rfl) ?_
 obtain ⟨H13, r11, c12, hB20⟩ := bind2_inv hB20
 let E8 : EN := (24, vb (r11 != r6.Most_))
 let E9 : EN := (25, vb (r11 != r6.Most_))
 let L41 : Ptr → List EN := fun z0 => (L39 z0) ++ [(21, vi r11), E6, E7]
 let L56 : Ptr → List EN := fun z0 => (L41 z0) ++ [(24, vF), (25, vF), (26, vF), (27, vp z0)]
 let L57 : Ptr → List EN := fun z0 => (L41 z0) ++ [(24, vT), (25, vT), (26, vT), (27, vN)]
 refine d_last ⟨(L41 r5), [B3], H13⟩ (yc (some 21) false false (⟨(L39 r5) ++ [E6, E7], [B3], H9⟩ : St) (ok_emit_Code_Most H9 c12) (hr := (by generalize r5 = qp0; cases qp0 <;> kernel_rfl)) (hs := (by generalize r5 = qp0; cases qp0 <;> kernel_rfl))) ?_
 refine d_take ⟨(L41 r5) ++ [E8], [B3], H13⟩ (by generalize r5 = qp0; cases qp0 <;> kernel_rfl) ?_
 refine d_take ⟨(L41 r5) ++ [E8, E9], [B3], H13⟩ (by generalize r5 = qp0; cases qp0 <;> kernel_rfl) ?_
 refine d_take ⟨(L41 r5) ++ [E8, E9, (26, vb (r11 != r6.Most_))], [B3], H13⟩ (by generalize r5 = qp0; cases qp0 <;> kernel_rfl) ?_
 rcases if_inv hB20 with ⟨h14, hB20⟩ | ⟨h14, hB20⟩
 refine d_eq (congrArg (fun q => (⟨(L41 r5) ++ [(24, vb q), (25, vb q), (26, vb q)], [B3], H13⟩ : St)) h14) ?_
 refine d_take ⟨(L57 r5), [B3], H13⟩ (by generalize r5 = qp0; cases qp0 <;> kernel_rfl) ?_
 refine d_take ⟨(L57 r5) ++ [(29, vN)], [B3], H13⟩ (by generalize r5 = qp0; cases qp0 <;> kernel_rfl) ?_
 refine d_take ⟨(L57 r5) ++ L52, [B3], H13⟩ (by generalize r5 = qp0; cases qp0 <;> kernel_rfl) ?_
 refine d_last ⟨(L57 r5) ++ [(28, vN)] ++ L52, [B3], H13⟩ (by generalize r5 = qp0; cases qp0 <;> kernel_rfl) ?_
 refine d_take ⟨(L57 r5) ++ L61, [B3], H13⟩ (by generalize r5 = qp0; cases qp0 <;> kernel_rfl) ?_
 refine d_take ⟨(L57 r5) ++ L61 ++ [(32, vT)], [B3], H13⟩ (by generalize r5 = qp0; cases qp0 <;> kernel_rfl) ?_
 cases hB20
 exact yde
 refine d_eq (congrArg (fun q => (⟨(L41 r5) ++ [(24, vb q), (25, vb q), (26, vb q)], [B3], H13⟩ : St)) h14) ?_
 refine d_take ⟨(L56 r5), [B3], H13⟩ (by generalize r5 = qp0; cases qp0 <;> kernel_rfl) ?_
 refine d_take ⟨(L56 r5) ++ [E10], [B3], H13⟩ (by generalize r5 = qp0; cases qp0 <;> kernel_rfl) ?_
 refine d_take ⟨(L56 r5) ++ [E10, E11], [B3], H13⟩ (by generalize r5 = qp0; cases qp0 <;> kernel_rfl) ?_
 obtain ⟨H17, r15, c16, hB20⟩ := bind2_inv hB20
 let E12 : EN := (31, vb (r15 != r6.Depth_))
 let L65 : Ptr → List EN := fun z0 => (L56 z0) ++ [(28, vi r15), E10, E11]
 refine d_last ⟨(L65 r5), [B3], H17⟩ (yc (some 28) false false (⟨(L56 r5) ++ [E10, E11], [B3], H13⟩ : St) (ok_emit_Code_Most H13 c16) (hr := (by generalize r5 = qp0; cases qp0 <;> kernel_rfl)) (hs := (by generalize r5 = qp0; cases qp0 <;> kernel_rfl))) ?_
 refine d_take ⟨(L65 r5) ++ [E12], [B3], H17⟩ (by generalize r5 = qp0; cases qp0 <;> kernel_rfl) ?_
 refine d_take ⟨(L65 r5) ++ [E12, (32, vb (r15 != r6.Depth_))], [B3], H17⟩ (by generalize r5 = qp0; cases qp0 <;> kernel_rfl) ?_
 cases hB20
 exact yde
 rcases if_inv hF with ⟨h21, hF⟩ | ⟨h21, hF⟩
 refine yT h21 ⟨[], [], H19⟩ ?_
 refine ysg ⟨[E2], [], H19⟩ ?_
 refine w_ret ?_
 obtain ⟨e0, e1⟩ := some2_inv hF
 subst e0
 subst e1
 exact yi (vF)
 refine yF h21 ⟨(L34 r5), [B3], H19⟩ ?_
 refine w_skip ?_
 refine w_seq ?_
 obtain ⟨H25, r22, r23, c24, hF⟩ := bind3_inv hF
 let B13 : EB := (6, (m1_emit_Result r22))
 let E15 : EN := (35, .tup [.agg (m0_emit_Result r22), vi r23])
 let E16 : EN := (48, vi (r22.Words_.length : Int))
 let E17 : EN := (55, .one .bl (.sl 1 (List.map (eI .u32) r22.Words_)))
 let E20 : EN := (64, vi (r22.Fixups_.length : Int))
 let E22 : EN := (68, vb ((r22.Fixups_.length : Int) != (r6.Fixups_.length : Int)))
 let E26 : EN := (78, .one .bl (.sl 4 (List.map e_api_Fixup r22.Fixups_)))
 let L32 : List EN := L31 ++ [(7, vi r23)]
 let L33 : List EN := L32 ++ [(51, vi r23)]
 let L36 : List EN := L33 ++ [(52, vF), (53, vF), (54, vl 6 0)]
 let L37 : List EN := L36 ++ [E17, (56, .agg (m1_ref17_Code r6))]
 let L43 : List EN := L33 ++ [(52, vT), (53, vT), (54, vN)]
 let L44 : List EN := L43 ++ [(55, vN), (56, vN)]
 let L48 : List EN := L44 ++ [(57, vN), (58, vN), (59, vN)]
 let L55 : List EN := L32 ++ [(41, vi r23), (42, vl 4 7), (43, vi r6.Err_)]
 let L64 : List EN := L55 ++ [(44, vT), (45, vT), (46, vl 6 0), (47, .one .bl (.sl 1 (List.map (eI .u32) r22.Words_)))]
 let S67 : St := ⟨[], [], H25⟩
 let S68 : St := ⟨[E2], [], H25⟩
 refine w_regO ⟨L32, [B3, B13], H25⟩ ?_ ?_
 refine yr 1 ⟨(L34 r5) ++ [(E14 r5)], [B3], H19⟩ ?_ (h := (by generalize r5 = qp0; cases qp0 <;> kernel_rfl))
 refine o_one ⟨(L34 r5) ++ [(E14 r5), E15], [B3], H25⟩ (yc (some 35) false false (⟨(L34 r5) ++ [(E14 r5)], [B3], H19⟩ : St) (ok_emit_Code_Finish H19 c24) (hr := (by generalize r5 = qp0; cases qp0 <;> kernel_rfl)) (hs := (by generalize r5 = qp0; cases qp0 <;> kernel_rfl))) ?_
 refine yr 6 ⟨[(3, vp r5)] ++ L32 ++ [(33, .tup [.agg (m1_emit_Result r22), vi r23]), (E14 r5), E15, (36, .agg (m1_emit_Result r22)), (37, vi r23)], [B3, B13], H25⟩ ?_ (h := (by generalize r5 = qp0; cases qp0 <;> kernel_rfl))
 exact ye
 refine w_seq ?_
 refine ysg ⟨L32 ++ [(40, vb (r6.Err_ != 0))], [B3, B13], H25⟩ ?_
 rcases if_inv hF with ⟨h26, hF⟩ | ⟨h26, hF⟩
 refine yT h26 ⟨L32, [B3, B13], H25⟩ ?_
 refine yso ⟨[(2, vb ((r23 == r6.Err_) && ((r22.Words_.length : Int) == 0)))], [], H25⟩ ?_ ?_
 refine yr 5 ⟨L55 ++ [(44, vb (r23 == r6.Err_)), (45, vb (r23 == r6.Err_))], [B3, B13], H25⟩ ?_
 rcases bool_cases (r23 == r6.Err_) with h27 | h27
 refine o_eq (congrArg (fun q => (⟨L55 ++ [(44, vb q), (45, vb q)], [B3, B13], H25⟩ : St)) h27) ?_
 refine yr 2 ⟨L64, [B3, B13], H25⟩ ?_
 refine o_one ⟨L64 ++ [E16], [B3, B13], H25⟩ (yl (⟨L64, [B3, B13], H25⟩ : St) r22.Words_ (eI .u32) (some 48)) ?_
 refine yr 3 ⟨[(2, vb ((r22.Words_.length : Int) == 0))] ++ L64 ++ [E16, (49, vb ((r22.Words_.length : Int) == 0)), (50, vb ((r22.Words_.length : Int) == 0))], [B3, B13], H25⟩ ?_
 refine o_eq2 (congrArg (fun q0 => (⟨[(2, vb q0)], [], H25⟩ : St)) (show ((r22.Words_.length : Int) == 0) = ((r23 == r6.Err_) && ((r22.Words_.length : Int) == 0)) by simp [h27])) ?_
 exact ye
 refine o_eq (congrArg (fun q => (⟨L55 ++ [(44, vb q), (45, vb q)], [B3, B13], H25⟩ : St)) h27) ?_
 refine yr 6 ⟨[E2] ++ L55 ++ [(44, vF), (45, vF), (46, vN), (47, vN), (48, vN), (49, vN), (50, vF)], [B3, B13], H25⟩ ?_
 refine o_eq2 (congrArg (fun q0 => (⟨[(2, vb q0)], [], H25⟩ : St)) (show false = ((r23 == r6.Err_) && ((r22.Words_.length : Int) == 0)) by simp [h27])) ?_
 exact ye
 refine w_ret ?_
 obtain ⟨e0, e1⟩ := some2_inv hF
 subst e0
 subst e1
 exact yi (vb ((r23 == r6.Err_) && ((r22.Words_.length : Int) == 0)))
 refine yF h26 ⟨L32, [B3, B13], H25⟩ ?_
 refine w_skip ?_
 refine w_seq ?_
 refine w_seq ?_
 obtain ⟨w34, hB35, hF⟩ := bind1_inv hF
 refine w_regD (.take 0 (.take 1 (.take 2 (.take 3 (.take 4 (.take 5 (.last 6 (.last 7 (.take 8 (.take 9 (.take 10 (.take 11 (.take 12 (.take 13 (.take 14 (.take 15 (.take 16 (.take 17 (.take 18 .done))))))))))))))))))) (by kernel_rfl) (⟨L31 ++ [(69, vb w34)], [B3, B13], H25⟩ : St) ?_ ?_
 refine ydk 3 ⟨L33 ++ [(52, vb (r23 != 0)), (53, vb (r23 != 0))], [B3, B13], H25⟩ ?_
 rcases if_inv hB35 with ⟨h28, hB35⟩ | ⟨h28, hB35⟩
 refine d_eq (congrArg (fun q => (⟨L33 ++ [(52, vb q), (53, vb q)], [B3, B13], H25⟩ : St)) h28) ?_
 refine ydk 3 ⟨L44, [B3, B13], H25⟩ ?_
 refine ydl ⟨L44 ++ [(57, vN)], [B3, B13], H25⟩ ?_
 refine ydl ⟨L44 ++ [(57, vN), (58, vN)], [B3, B13], H25⟩ ?_
 refine ydk 11 ⟨L48 ++ L62 ++ [(69, vT)], [B3, B13], H25⟩ ?_
 cases hB35
 exact yde
 refine d_eq (congrArg (fun q => (⟨L33 ++ [(52, vb q), (53, vb q)], [B3, B13], H25⟩ : St)) h28) ?_
 refine ydk 3 ⟨L37, [B3, B13], H25⟩ ?_
 obtain ⟨r29, c30, hB35⟩ := bind1_inv hB35
 let E18 : EN := (57, .one (.own 0) (.sl 1 (List.map (eI .u32) r29)))
 refine d_last ⟨L37 ++ [E18], [B3, B13], H25⟩ (yc (some 57) true false (⟨L37, [B3, B13], H25⟩ : St) (ok_ref17_Words H25 c30)) ?_
 obtain ⟨r31, c32, hB35⟩ := bind1_inv hB35
 let E19 : EN := (59, vb (!r31))
 let L38 : List EN := L37 ++ [E18, (58, vb r31)]
 let L51 : List EN := L38 ++ [(59, vF), (60, vF), (61, vF), (62, vl 6 1), (63, .one .bl (.sl 4 (List.map e_api_Fixup r22.Fixups_)))]
 let L53 : List EN := L38 ++ [(59, vT)]
 let L60 : List EN := L51 ++ [E20, (65, vl 4 2), (66, .one (.own 0) (.sl 4 (List.map e_api_Fixup r6.Fixups_)))]
 refine d_last ⟨L38, [B3, B13], H25⟩ (yc (some 58) true false (⟨L37 ++ [E18], [B3, B13], H25⟩ : St) (ok_ref01_Words_2 H25 c32)) ?_
 refine ydk 3 ⟨L38 ++ [E19, (60, vb (!r31)), (61, vb (!r31))], [B3, B13], H25⟩ ?_
 rcases if_inv hB35 with ⟨h33, hB35⟩ | ⟨h33, hB35⟩
 refine d_eq (congrArg (fun q => (⟨L38 ++ [(59, vb q), (60, vb q), (61, vb q)], [B3, B13], H25⟩ : St)) h33) ?_
 refine ydk 8 ⟨L53 ++ L62 ++ [(69, vT)], [B3, B13], H25⟩ ?_
 cases hB35
 exact yde
 refine d_eq (congrArg (fun q => (⟨L38 ++ [(59, vb q), (60, vb q), (61, vb q)], [B3, B13], H25⟩ : St)) h33) ?_
 refine ydk 2 ⟨L51, [B3, B13], H25⟩ ?_
 refine d_take ⟨L51 ++ [E20], [B3, B13], H25⟩ (yl (⟨L51, [B3, B13], H25⟩ : St) r22.Fixups_ e_api_Fixup (some 64)) ?_
 refine ydk 2 ⟨L60, [B3, B13], H25⟩ ?_
 refine d_take ⟨L60 ++ [E21], [B3, B13], H25⟩ (yl (⟨L60, [B3, B13], H25⟩ : St) r6.Fixups_ e_api_Fixup (some 67)) ?_
 refine ydk 2 ⟨L60 ++ [E21, E22, (69, vb ((r22.Fixups_.length : Int) != (r6.Fixups_.length : Int)))], [B3, B13], H25⟩ ?_
 cases hB35
 exact yde
 rcases if_inv hF with ⟨h36, hF⟩ | ⟨h36, hF⟩
 refine yT h36 S67 ?_
 refine ysg S68 ?_
 refine w_ret ?_
 obtain ⟨e0, e1⟩ := some2_inv hF
 subst e0
 subst e1
 exact yi (vF)
 refine yF h36 ⟨L31, [B3, B13], H25⟩ ?_
 refine w_skip ?_
 refine w_seq ?_
 refine ysg ⟨L31 ++ [(8, vi 0)], [B3, B13], H25⟩ ?_
 refine w_block ?_
 obtain ⟨r44, hL45, hF⟩ := bind1_inv hF
 refine w_loop (fun (x : (Int)) => (⟨L31 ++ [(8, vi x)], [B3, B13], H25⟩ : St)) (Sum.elim (fun (y : Unit) => ((.exit 0, S67) : Ex × St)) (fun (y : Unit) => ((.ret, S68) : Ex × St))) hL45 (by kernel_rfl) ?_ ?_
 rintro a37 o hF
 replace hF : law17_EmitPlays_L1 r6 r22 a37 = some o := hF
 let E23 : EN := (74, vb (decide (a37 < (r6.Fixups_.length : Int))))
 let L40 : List EN := L31 ++ [(8, vi a37)]
 let L47 : List EN := L40 ++ [(77, vl 6 1), E26, (79, vi a37)]
 let L63 : List EN := L40 ++ [(70, vi a37), (71, vl 4 2), (72, .one (.own 0) (.sl 4 (List.map e_api_Fixup r6.Fixups_)))]
 unfold law17_EmitPlays_L1 at hF
 refine w_seq ?_
 refine yso ⟨L40 ++ [E23], [B3, B13], H25⟩ ?_ ?_
 refine yr 3 ⟨L63, [B3, B13], H25⟩ ?_
 refine o_one ⟨L63 ++ [E24], [B3, B13], H25⟩ (yl (⟨L63, [B3, B13], H25⟩ : St) r6.Fixups_ e_api_Fixup (some 73)) ?_
 refine yr 1 ⟨L63 ++ [E24, E23], [B3, B13], H25⟩ ?_
 exact ye
 rcases if_inv hF with ⟨h38, hF⟩ | ⟨h38, hF⟩
 refine yT h38 ⟨L40, [B3, B13], H25⟩ ?_
 refine w_skip ?_
 refine w_seq ?_
 refine w_block ?_
 refine w_seq ?_
 obtain ⟨x39, h40, hF⟩ := bind1_inv hF
 let E27 : EN := (80, .one .top (.rd .bl .bl [.int .i64 x39.At_, .int .i64 x39.Kind_, .int .i64 x39.Module_, .int .i64 x39.Value_] 0))
 let L50 : List EN := L47 ++ [E27, (81, .agg (m0_api_Fixup x39))]
 let L59 : List EN := L50 ++ [(82, vl 4 2), E28, (84, vi a37)]
 obtain ⟨x41, h42, hF⟩ := bind1_inv hF
 let E25 : EN := (87, vb (!(eq_api_Fixup x39 x41)))
 let E29 : EN := (85, .one .top (.rd (.own 0) (.own 0) [.int .i64 x41.At_, .int .i64 x41.Kind_, .int .i64 x41.Module_, .int .i64 x41.Value_] 0))
 let E30 : EN := (86, .agg (m0_api_Fixup x41))
 refine w_regD (.take 0 (.take 1 (.take 2 (.take 3 (.take 4 (.take 5 (.take 6 (.take 7 (.take 8 (.take 9 (.take 10 .done))))))))))) (by kernel_rfl) (⟨L40 ++ [E25], [B3, B13], H25⟩ : St) ?_ ?_
 refine ydk 3 ⟨L47, [B3, B13], H25⟩ ?_
 refine d_take ⟨L47 ++ [E27], [B3, B13], H25⟩ (st_ix (X := X) (⟨L47, [B3, B13], H25⟩ : St) 27 43 4 h40 e_api_Fixup .bl (some 80) (by kernel_rfl) (by kernel_rfl) (by kernel_rfl) (by kernel_rfl)) ?_
 refine ydk 4 ⟨L59, [B3, B13], H25⟩ ?_
 refine d_take ⟨L59 ++ [E29], [B3, B13], H25⟩ (st_ix (X := X) (⟨L59, [B3, B13], H25⟩ : St) 27 43 4 h42 e_api_Fixup (.own 0) (some 85) (by kernel_rfl) (by kernel_rfl) (by kernel_rfl) (by kernel_rfl)) ?_
 refine ydt ⟨L59 ++ [E29, E30], [B3, B13], H25⟩ ?_
 refine d_take ⟨L59 ++ [E29, E30, E25], [B3, B13], H25⟩ (st_bin (⟨L59 ++ [E29, E30], [B3, B13], H25⟩ : St) (bin_neA (P := X.P) (ty := 43) (x := (.tmp 81)) (y := (.tmp 86)) (cs := [(.top, .int .i64 x39.At_), (.top, .int .i64 x39.Kind_), (.top, .int .i64 x39.Module_), (.top, .int .i64 x39.Value_)]) (ds := [(.top, .int .i64 x41.At_), (.top, .int .i64 x41.Kind_), (.top, .int .i64 x41.Module_), (.top, .int .i64 x41.Value_)]) (us := [.int .i64 x39.At_, .int .i64 x39.Kind_, .int .i64 x39.Module_, .int .i64 x39.Value_]) (vs := [.int .i64 x41.At_, .int .i64 x41.Kind_, .int .i64 x41.Module_, .int .i64 x41.Value_]) (qs := [x39.At_ == x41.At_, x39.Kind_ == x41.Kind_, x39.Module_ == x41.Module_, x39.Value_ == x41.Value_]) (by kernel_rfl) (by kernel_rfl) (by kernel_rfl) (by kernel_rfl)) rfl (some 87) (by kernel_rfl) (by kernel_rfl)) ?_
 exact yde
 rcases if_inv hF with ⟨h43, hF⟩ | ⟨h43, hF⟩
 refine yT h43 S67 ?_
 refine ysg S68 ?_
 refine w_ret ?_
 cases hF
 exact ⟨_, rfl, (by kernel_rfl)⟩
 refine yF h43 ⟨L40, [B3, B13], H25⟩ ?_
 refine w_skip ?_
 refine yg ⟨L31 ++ [(8, vi (IntKind.wrap .i64 (a37 + 1)))], [B3, B13], H25⟩ ?_
 cases hF
 exact ⟨_, rfl, (by kernel_rfl)⟩
 refine yF h38 S67 ?_
 refine w_exit ?_
 cases hF
 exact ⟨_, rfl, (by kernel_rfl)⟩
 rcases sum2_inv hF with ⟨r44', rfl, hF⟩ | ⟨r44', rfl, hF⟩
 refine w_oe (i := 0) (s := S67) (by kernel_rfl) ?_
 refine e_here ?_
 refine ysg ⟨[(2, vT)], [], H25⟩ ?_
 refine w_ret ?_
 obtain ⟨e0, e1⟩ := some2_inv hF
 subst e0
 subst e1
 exact yi (vT)
 refine w_or (s := S68) (by kernel_rfl) ?_
 obtain ⟨e0, e1⟩ := some2_inv hF
 subst e0
 subst e1
 exact yi (vF)
end Go.Proofs.Abs
