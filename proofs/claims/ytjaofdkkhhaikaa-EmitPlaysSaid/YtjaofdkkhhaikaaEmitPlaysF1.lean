/- The law EmitPlays: whatever the input, it answers true. No conditions. (Part EmitPlaysF1 of its proof.) -/
import Derived.Test.YtjaofdkkhhaikaaEmitPlaysF0
set_option linter.unusedVariables false
set_option linter.unusedSimpArgs false
set_option linter.unusedSectionVars false
/- Printed by gen (walk.py). -/
namespace Go.Proofs.Abs
open Go Go.Proofs
set_option linter.unusedVariables false
set_option maxRecDepth 100000
set_option maxHeartbeats 0
noncomputable def ref02_Check_j2 (p0 : T_ref02_Instr) (j26 : Int) (j27 : Int) : Option (Int) :=
  if ((decide (p0.Imm_ < j26)) || (decide (p0.Imm_ > j27))) = true then (some 20)
  else (some 0)
noncomputable def ref02_Check_j4 (p0 : T_ref02_Instr) (j32 : Int) (j33 : Int) : Option (Int) :=
  ref02_Check_j2 p0 j32 j33
noncomputable def ref02_Check_j5 (p0 : T_ref02_Instr) (j35 : Int) (j36 : Int) : Option (Int) :=
  ref02_Check_j4 p0 j35 j36
noncomputable def ref02_Check_j3 (p0 : T_ref02_Instr) (r1 : Int) (j31 : Bool) : Option (Int) :=
  if j31 = true then (ref02_Check_j4 p0 0 65535)
  else (if (r1 == 7) = true then (ref02_Check_j5 p0 (-8388608) 8388607)
  else (ref02_Check_j5 p0 0 0))
noncomputable def ref02_Check_j6 (p0 : T_ref02_Instr) (r1 : Int) (j39 : Bool) : Option (Int) :=
  ref02_Check_j3 p0 r1 j39
noncomputable def ref02_Check_j1 (p0 : T_ref02_Instr) (r1 : Int) (j25 : Bool) : Option (Int) :=
  if j25 = true then (ref02_Check_j2 p0 (-32768) 32767)
  else (if (r1 == 2) = true then (ref02_Check_j3 p0 r1 (r1 == 2))
  else (if (r1 == 4) = true then (ref02_Check_j6 p0 r1 (r1 == 4))
  else (ref02_Check_j6 p0 r1 (r1 == 8))))
noncomputable def ref02_Check  (p0 : T_ref02_Instr) : Option (Int) :=
  bind1 (ref02_Shape p0.Op_) fun r1 =>
  if (decide (r1 < 0)) = true then (some 21)
  else (bind3 (ref02_has r1) fun r4 r5 r6 =>
  if ((decide (p0.A_ < 0)) || ((decide (p0.A_ > 15)) || ((decide (p0.B_ < 0)) || ((decide (p0.B_ > 15)) || ((decide (p0.C_ < 0)) || ((decide (p0.C_ > 15)) || (if (!r4) = true then ((p0.A_ != 0) || (if (!r5) = true then ((p0.B_ != 0) || ((!r6) && (p0.C_ != 0))) else ((!r6) && (p0.C_ != 0)))) else (if (!r5) = true then ((p0.B_ != 0) || ((!r6) && (p0.C_ != 0))) else ((!r6) && (p0.C_ != 0)))))))))) = true then (some 20)
  else (if (r1 == 1) = true then (ref02_Check_j1 p0 r1 (r1 == 1))
  else (ref02_Check_j1 p0 r1 (r1 == 3))))
theorem ok_ref02_Check (H : Heap) {p0 : T_ref02_Instr} {ra : Int} (hF : ref02_Check p0 = some ra) : evS X 48 [.agg (m0_ref02_Instr p0)] H = some (.one .top (.int .i64 ra), H) := by
 let E1 : EN := (1, vl 1 0)
 let B2 : EB := (1, (m0_ref02_Instr p0))
 let E3 : EN := (9, vl 1 0)
 let E4 : EN := (10, vi p0.Op_)
 let E9 : EN := (7, vi 0)
 let L27 : List EN := [(65, vT), (66, vT), (67, vN), (68, vN), (69, vN), (70, vN), (71, vN), (72, vN), (73, vN), (74, vT)]
 let L28 : List EN := [(56, vT), (57, vT), (58, vN), (59, vN), (60, vN), (61, vN), (62, vN), (63, vN), (64, vN)] ++ L27
 let L29 : List EN := [(47, vT), (48, vT), (49, vN), (50, vN), (51, vN), (52, vN), (53, vN), (54, vN), (55, vN)] ++ L28
 let L33 : List EN := [(42, vT), (43, vT), (44, vN), (45, vN), (46, vN)] ++ L29
 let L34 : List EN := [(68, vF), (69, vF), (70, vN), (71, vN), (72, vN), (73, vF), (74, vF)]
 let L35 : List EN := [(37, vT), (38, vT), (39, vN), (40, vN), (41, vN)] ++ L33
 let L36 : List EN := [(68, vT), (69, vT), (70, vl 1 3), (71, vi p0.C_), (72, vb (p0.C_ != 0)), (73, vb (p0.C_ != 0)), (74, vb (p0.C_ != 0))]
 let L37 : List EN := [(32, vT), (33, vT), (34, vN), (35, vN), (36, vN)] ++ L35
 let L38 : List EN := [(27, vT), (28, vT), (29, vN), (30, vN), (31, vN)] ++ L37
 let S39 : St := ⟨[E1], [B2], H⟩
 let S40 : St := ⟨[E1, E3, E4], [B2], H⟩
 let S41 : St := ⟨[], [], H⟩
 refine yf Try.func48 true ⟨[(0, .agg (m0_ref02_Instr p0))], [], H⟩ ?_
 unfold ref02_Check at hF
 refine ysg S39 ?_
 refine w_seq ?_
 obtain ⟨r1, c2, hF⟩ := bind1_inv hF
 let E5 : EN := (15, vi r1)
 let L10 : List EN := [E1, (3, vi r1)]
 let L24 : List EN := [E1, E9, (8, vi 0), (75, vi r1)]
 refine w_regO ⟨L10, [B2], H⟩ ?_ ?_
 refine yr 2 S40 ?_
 refine o_one ⟨[E1, E3, E4, (11, vi r1)], [B2], H⟩ (yc (some 11) true false S40 (ok_ref02_Shape H c2)) ?_
 refine yr 1 ⟨L10 ++ [E3, E4, (11, vi r1)], [B2], H⟩ ?_
 exact ye
 refine w_seq ?_
 refine ysg ⟨L10 ++ [(13, vb (decide (r1 < 0)))], [B2], H⟩ ?_
 rcases if_inv hF with ⟨h3, hF⟩ | ⟨h3, hF⟩
 refine yT h3 S41 ?_
 refine ysg ⟨[(2, vi 21)], [], H⟩ ?_
 refine w_ret ?_
 obtain e0 := some1_inv hF
 subst e0
 exact yp (vi 21)
 refine yF h3 ⟨L10, [B2], H⟩ ?_
 refine w_skip ?_
 refine w_seq ?_
 obtain ⟨r4, r5, r6, c7, hF⟩ := bind3_inv hF
 let E6 : EN := (16, .tup [vb r4, vb r5, vb r6])
 let E7 : EN := (68, vb (!r6))
 let E8 : EN := (69, vb (!r6))
 let L11 : List EN := L10 ++ [(4, vb r4), (5, vb r5), (6, vb r6)]
 let L12 : List EN := L11 ++ [(20, vl 1 1), (21, vi p0.A_)]
 let L13 : List EN := L12 ++ [(22, vF), (23, vF), (24, vl 1 1), (25, vi p0.A_)]
 let L14 : List EN := L13 ++ [(26, vF), (27, vF), (28, vF), (29, vl 1 2), (30, vi p0.B_)]
 let L15 : List EN := L14 ++ [(31, vF), (32, vF), (33, vF), (34, vl 1 2), (35, vi p0.B_)]
 let L16 : List EN := L15 ++ [(36, vF), (37, vF), (38, vF), (39, vl 1 3), (40, vi p0.C_)]
 let L17 : List EN := L16 ++ [(41, vF), (42, vF), (43, vF), (44, vl 1 3), (45, vi p0.C_)]
 let L18 : List EN := L17 ++ [(46, vF), (47, vF), (48, vF), (49, vb r4)]
 let L19 : List EN := [(55, vF), (56, vF), (57, vF), (58, vb r5)]
 let L20 : List EN := L18 ++ [(50, vT), (51, vT), (52, vl 1 1), (53, vi p0.A_)]
 let L21 : List EN := [(64, vF), (65, vF), (66, vF), (67, vb r6)]
 let L22 : List EN := L19 ++ [(59, vT), (60, vT), (61, vl 1 2), (62, vi p0.B_)]
 let L23 : List EN := L20 ++ [(54, vF)]
 let L25 : List EN := L18 ++ [(50, vF), (51, vF), (52, vN), (53, vN), (54, vN)]
 let L26 : List EN := L19 ++ [(59, vF), (60, vF), (61, vN), (62, vN), (63, vN)] ++ L21
 let L30 : List EN := L23 ++ L22 ++ [(63, vF)] ++ L21
 let L31 : List EN := L25 ++ L22 ++ [(63, vF)] ++ L21
 refine w_regO ⟨L11, [B2], H⟩ ?_ ?_
 refine yr 1 ⟨L10 ++ [E5], [B2], H⟩ ?_
 refine o_one ⟨L10 ++ [E5, E6], [B2], H⟩ (yc (some 16) true false (⟨L10 ++ [E5], [B2], H⟩ : St) (ok_ref02_has H c7)) ?_
 refine yr 7 ⟨L11 ++ [(14, .tup [vb r4, vb r5, vb r6]), E5, E6, (17, vb r4), (18, vb r5), (19, vb r6)], [B2], H⟩ ?_
 exact ye
 refine w_seq ?_
 refine yso ⟨L10 ++ [(74, vb ((decide (p0.A_ < 0)) || ((decide (p0.A_ > 15)) || ((decide (p0.B_ < 0)) || ((decide (p0.B_ > 15)) || ((decide (p0.C_ < 0)) || ((decide (p0.C_ > 15)) || (if (!r4) = true then ((p0.A_ != 0) || (if (!r5) = true then ((p0.B_ != 0) || ((!r6) && (p0.C_ != 0))) else ((!r6) && (p0.C_ != 0)))) else (if (!r5) = true then ((p0.B_ != 0) || ((!r6) && (p0.C_ != 0))) else ((!r6) && (p0.C_ != 0)))))))))))], [B2], H⟩ ?_ ?_
 refine yr 4 ⟨L12 ++ [(22, vb (decide (p0.A_ < 0))), (23, vb (decide (p0.A_ < 0)))], [B2], H⟩ ?_
 rcases bool_cases (decide (p0.A_ < 0)) with h8 | h8
 refine o_eq (congrArg (fun q => (⟨L12 ++ [(22, vb q), (23, vb q)], [B2], H⟩ : St)) h8) ?_
 refine yr 51 ⟨L12 ++ [(22, vT), (23, vT), (24, vN), (25, vN), (26, vN)] ++ L38, [B2], H⟩ ?_
 refine o_eq2 (congrArg (fun q0 => (⟨L10 ++ [(74, vb q0)], [B2], H⟩ : St)) (show true = ((decide (p0.A_ < 0)) || ((decide (p0.A_ > 15)) || ((decide (p0.B_ < 0)) || ((decide (p0.B_ > 15)) || ((decide (p0.C_ < 0)) || ((decide (p0.C_ > 15)) || (if (!r4) = true then ((p0.A_ != 0) || (if (!r5) = true then ((p0.B_ != 0) || ((!r6) && (p0.C_ != 0))) else ((!r6) && (p0.C_ != 0)))) else (if (!r5) = true then ((p0.B_ != 0) || ((!r6) && (p0.C_ != 0))) else ((!r6) && (p0.C_ != 0)))))))))) by simp [h8])) ?_
 exact ye
 refine o_eq (congrArg (fun q => (⟨L12 ++ [(22, vb q), (23, vb q)], [B2], H⟩ : St)) h8) ?_
 refine yr 5 ⟨L13 ++ [(26, vb (decide (p0.A_ > 15))), (27, vb (decide (p0.A_ > 15))), (28, vb (decide (p0.A_ > 15)))], [B2], H⟩ ?_
 rcases bool_cases (decide (p0.A_ > 15)) with h9 | h9
 refine o_eq (congrArg (fun q => (⟨L13 ++ [(26, vb q), (27, vb q), (28, vb q)], [B2], H⟩ : St)) h9) ?_
 refine yr 46 ⟨L13 ++ [(26, vT)] ++ L38, [B2], H⟩ ?_
 refine o_eq2 (congrArg (fun q0 => (⟨L10 ++ [(74, vb q0)], [B2], H⟩ : St)) (show true = ((decide (p0.A_ < 0)) || ((decide (p0.A_ > 15)) || ((decide (p0.B_ < 0)) || ((decide (p0.B_ > 15)) || ((decide (p0.C_ < 0)) || ((decide (p0.C_ > 15)) || (if (!r4) = true then ((p0.A_ != 0) || (if (!r5) = true then ((p0.B_ != 0) || ((!r6) && (p0.C_ != 0))) else ((!r6) && (p0.C_ != 0)))) else (if (!r5) = true then ((p0.B_ != 0) || ((!r6) && (p0.C_ != 0))) else ((!r6) && (p0.C_ != 0)))))))))) by simp [h8, h9])) ?_
 exact ye
 refine o_eq (congrArg (fun q => (⟨L13 ++ [(26, vb q), (27, vb q), (28, vb q)], [B2], H⟩ : St)) h9) ?_
 refine yr 5 ⟨L14 ++ [(31, vb (decide (p0.B_ < 0))), (32, vb (decide (p0.B_ < 0))), (33, vb (decide (p0.B_ < 0)))], [B2], H⟩ ?_
 rcases bool_cases (decide (p0.B_ < 0)) with h10 | h10
 refine o_eq (congrArg (fun q => (⟨L14 ++ [(31, vb q), (32, vb q), (33, vb q)], [B2], H⟩ : St)) h10) ?_
 refine yr 41 ⟨L14 ++ [(31, vT)] ++ L37, [B2], H⟩ ?_
 refine o_eq2 (congrArg (fun q0 => (⟨L10 ++ [(74, vb q0)], [B2], H⟩ : St)) (show true = ((decide (p0.A_ < 0)) || ((decide (p0.A_ > 15)) || ((decide (p0.B_ < 0)) || ((decide (p0.B_ > 15)) || ((decide (p0.C_ < 0)) || ((decide (p0.C_ > 15)) || (if (!r4) = true then ((p0.A_ != 0) || (if (!r5) = true then ((p0.B_ != 0) || ((!r6) && (p0.C_ != 0))) else ((!r6) && (p0.C_ != 0)))) else (if (!r5) = true then ((p0.B_ != 0) || ((!r6) && (p0.C_ != 0))) else ((!r6) && (p0.C_ != 0)))))))))) by simp [h8, h9, h10])) ?_
 exact ye
 refine o_eq (congrArg (fun q => (⟨L14 ++ [(31, vb q), (32, vb q), (33, vb q)], [B2], H⟩ : St)) h10) ?_
 refine yr 5 ⟨L15 ++ [(36, vb (decide (p0.B_ > 15))), (37, vb (decide (p0.B_ > 15))), (38, vb (decide (p0.B_ > 15)))], [B2], H⟩ ?_
 rcases bool_cases (decide (p0.B_ > 15)) with h11 | h11
 refine o_eq (congrArg (fun q => (⟨L15 ++ [(36, vb q), (37, vb q), (38, vb q)], [B2], H⟩ : St)) h11) ?_
 refine yr 36 ⟨L15 ++ [(36, vT)] ++ L35, [B2], H⟩ ?_
 refine o_eq2 (congrArg (fun q0 => (⟨L10 ++ [(74, vb q0)], [B2], H⟩ : St)) (show true = ((decide (p0.A_ < 0)) || ((decide (p0.A_ > 15)) || ((decide (p0.B_ < 0)) || ((decide (p0.B_ > 15)) || ((decide (p0.C_ < 0)) || ((decide (p0.C_ > 15)) || (if (!r4) = true then ((p0.A_ != 0) || (if (!r5) = true then ((p0.B_ != 0) || ((!r6) && (p0.C_ != 0))) else ((!r6) && (p0.C_ != 0)))) else (if (!r5) = true then ((p0.B_ != 0) || ((!r6) && (p0.C_ != 0))) else ((!r6) && (p0.C_ != 0)))))))))) by simp [h8, h9, h10, h11])) ?_
 exact ye
 refine o_eq (congrArg (fun q => (⟨L15 ++ [(36, vb q), (37, vb q), (38, vb q)], [B2], H⟩ : St)) h11) ?_
 refine yr 5 ⟨L16 ++ [(41, vb (decide (p0.C_ < 0))), (42, vb (decide (p0.C_ < 0))), (43, vb (decide (p0.C_ < 0)))], [B2], H⟩ ?_
 rcases bool_cases (decide (p0.C_ < 0)) with h12 | h12
 refine o_eq (congrArg (fun q => (⟨L16 ++ [(41, vb q), (42, vb q), (43, vb q)], [B2], H⟩ : St)) h12) ?_
 refine yr 31 ⟨L16 ++ [(41, vT)] ++ L33, [B2], H⟩ ?_
 refine o_eq2 (congrArg (fun q0 => (⟨L10 ++ [(74, vb q0)], [B2], H⟩ : St)) (show true = ((decide (p0.A_ < 0)) || ((decide (p0.A_ > 15)) || ((decide (p0.B_ < 0)) || ((decide (p0.B_ > 15)) || ((decide (p0.C_ < 0)) || ((decide (p0.C_ > 15)) || (if (!r4) = true then ((p0.A_ != 0) || (if (!r5) = true then ((p0.B_ != 0) || ((!r6) && (p0.C_ != 0))) else ((!r6) && (p0.C_ != 0)))) else (if (!r5) = true then ((p0.B_ != 0) || ((!r6) && (p0.C_ != 0))) else ((!r6) && (p0.C_ != 0)))))))))) by simp [h8, h9, h10, h11, h12])) ?_
 exact ye
 refine o_eq (congrArg (fun q => (⟨L16 ++ [(41, vb q), (42, vb q), (43, vb q)], [B2], H⟩ : St)) h12) ?_
 refine yr 5 ⟨L17 ++ [(46, vb (decide (p0.C_ > 15))), (47, vb (decide (p0.C_ > 15))), (48, vb (decide (p0.C_ > 15)))], [B2], H⟩ ?_
 rcases bool_cases (decide (p0.C_ > 15)) with h13 | h13
 refine o_eq (congrArg (fun q => (⟨L17 ++ [(46, vb q), (47, vb q), (48, vb q)], [B2], H⟩ : St)) h13) ?_
 refine yr 26 ⟨L17 ++ [(46, vT)] ++ L29, [B2], H⟩ ?_
 refine o_eq2 (congrArg (fun q0 => (⟨L10 ++ [(74, vb q0)], [B2], H⟩ : St)) (show true = ((decide (p0.A_ < 0)) || ((decide (p0.A_ > 15)) || ((decide (p0.B_ < 0)) || ((decide (p0.B_ > 15)) || ((decide (p0.C_ < 0)) || ((decide (p0.C_ > 15)) || (if (!r4) = true then ((p0.A_ != 0) || (if (!r5) = true then ((p0.B_ != 0) || ((!r6) && (p0.C_ != 0))) else ((!r6) && (p0.C_ != 0)))) else (if (!r5) = true then ((p0.B_ != 0) || ((!r6) && (p0.C_ != 0))) else ((!r6) && (p0.C_ != 0)))))))))) by simp [h8, h9, h10, h11, h12, h13])) ?_
 exact ye
 refine o_eq (congrArg (fun q => (⟨L17 ++ [(46, vb q), (47, vb q), (48, vb q)], [B2], H⟩ : St)) h13) ?_
 refine yr 3 ⟨L18 ++ [(50, vb (!r4)), (51, vb (!r4))], [B2], H⟩ ?_
 rcases bool_cases (!r4) with h14 | h14
 refine o_eq (congrArg (fun q => (⟨L18 ++ [(50, vb q), (51, vb q)], [B2], H⟩ : St)) h14) ?_
 refine yr 6 ⟨L20 ++ [(54, vb (p0.A_ != 0)), (55, vb (p0.A_ != 0)), (56, vb (p0.A_ != 0)), (57, vb (p0.A_ != 0))], [B2], H⟩ ?_
 rcases bool_cases (p0.A_ != 0) with h15 | h15
 refine o_eq (congrArg (fun q => (⟨L20 ++ [(54, vb q), (55, vb q), (56, vb q), (57, vb q)], [B2], H⟩ : St)) h15) ?_
 refine yr 17 ⟨L20 ++ [(54, vT), (55, vT)] ++ L28, [B2], H⟩ ?_
 refine o_eq2 (congrArg (fun q0 => (⟨L10 ++ [(74, vb q0)], [B2], H⟩ : St)) (show true = ((decide (p0.A_ < 0)) || ((decide (p0.A_ > 15)) || ((decide (p0.B_ < 0)) || ((decide (p0.B_ > 15)) || ((decide (p0.C_ < 0)) || ((decide (p0.C_ > 15)) || (if (!r4) = true then ((p0.A_ != 0) || (if (!r5) = true then ((p0.B_ != 0) || ((!r6) && (p0.C_ != 0))) else ((!r6) && (p0.C_ != 0)))) else (if (!r5) = true then ((p0.B_ != 0) || ((!r6) && (p0.C_ != 0))) else ((!r6) && (p0.C_ != 0)))))))))) by simp [h8, h9, h10, h11, h12, h13, h14, h15])) ?_
 exact ye
 refine o_eq (congrArg (fun q => (⟨L20 ++ [(54, vb q), (55, vb q), (56, vb q), (57, vb q)], [B2], H⟩ : St)) h15) ?_
 refine yr 3 ⟨L23 ++ L19 ++ [(59, vb (!r5)), (60, vb (!r5))], [B2], H⟩ ?_
 rcases bool_cases (!r5) with h16 | h16
 refine o_eq (congrArg (fun q => (⟨L23 ++ L19 ++ [(59, vb q), (60, vb q)], [B2], H⟩ : St)) h16) ?_
 refine yr 6 ⟨L23 ++ L22 ++ [(63, vb (p0.B_ != 0)), (64, vb (p0.B_ != 0)), (65, vb (p0.B_ != 0)), (66, vb (p0.B_ != 0))], [B2], H⟩ ?_
 rcases bool_cases (p0.B_ != 0) with h17 | h17
 refine o_eq (congrArg (fun q => (⟨L23 ++ L22 ++ [(63, vb q), (64, vb q), (65, vb q), (66, vb q)], [B2], H⟩ : St)) h17) ?_
 refine yr 8 ⟨L23 ++ L22 ++ [(63, vT), (64, vT)] ++ L27, [B2], H⟩ ?_
 refine o_eq2 (congrArg (fun q0 => (⟨L10 ++ [(74, vb q0)], [B2], H⟩ : St)) (show true = ((decide (p0.A_ < 0)) || ((decide (p0.A_ > 15)) || ((decide (p0.B_ < 0)) || ((decide (p0.B_ > 15)) || ((decide (p0.C_ < 0)) || ((decide (p0.C_ > 15)) || (if (!r4) = true then ((p0.A_ != 0) || (if (!r5) = true then ((p0.B_ != 0) || ((!r6) && (p0.C_ != 0))) else ((!r6) && (p0.C_ != 0)))) else (if (!r5) = true then ((p0.B_ != 0) || ((!r6) && (p0.C_ != 0))) else ((!r6) && (p0.C_ != 0)))))))))) by simp [h8, h9, h10, h11, h12, h13, h14, h15, h16, h17])) ?_
 exact ye
 refine o_eq (congrArg (fun q => (⟨L23 ++ L22 ++ [(63, vb q), (64, vb q), (65, vb q), (66, vb q)], [B2], H⟩ : St)) h17) ?_
 refine yr 3 ⟨L30 ++ [E7, E8], [B2], H⟩ ?_
 rcases bool_cases (!r6) with h18 | h18
 refine o_eq (congrArg (fun q => (⟨L30 ++ [(68, vb q), (69, vb q)], [B2], H⟩ : St)) h18) ?_
 refine yr 5 ⟨L30 ++ L36, [B2], H⟩ ?_
 refine o_eq2 (congrArg (fun q0 => (⟨L10 ++ [(74, vb q0)], [B2], H⟩ : St)) (show (p0.C_ != 0) = ((decide (p0.A_ < 0)) || ((decide (p0.A_ > 15)) || ((decide (p0.B_ < 0)) || ((decide (p0.B_ > 15)) || ((decide (p0.C_ < 0)) || ((decide (p0.C_ > 15)) || (if (!r4) = true then ((p0.A_ != 0) || (if (!r5) = true then ((p0.B_ != 0) || ((!r6) && (p0.C_ != 0))) else ((!r6) && (p0.C_ != 0)))) else (if (!r5) = true then ((p0.B_ != 0) || ((!r6) && (p0.C_ != 0))) else ((!r6) && (p0.C_ != 0)))))))))) by simp [h8, h9, h10, h11, h12, h13, h14, h15, h16, h17, h18])) ?_
 exact ye
 refine o_eq (congrArg (fun q => (⟨L30 ++ [(68, vb q), (69, vb q)], [B2], H⟩ : St)) h18) ?_
 refine yr 5 ⟨L30 ++ L34, [B2], H⟩ ?_
 refine o_eq2 (congrArg (fun q0 => (⟨L10 ++ [(74, vb q0)], [B2], H⟩ : St)) (show false = ((decide (p0.A_ < 0)) || ((decide (p0.A_ > 15)) || ((decide (p0.B_ < 0)) || ((decide (p0.B_ > 15)) || ((decide (p0.C_ < 0)) || ((decide (p0.C_ > 15)) || (if (!r4) = true then ((p0.A_ != 0) || (if (!r5) = true then ((p0.B_ != 0) || ((!r6) && (p0.C_ != 0))) else ((!r6) && (p0.C_ != 0)))) else (if (!r5) = true then ((p0.B_ != 0) || ((!r6) && (p0.C_ != 0))) else ((!r6) && (p0.C_ != 0)))))))))) by simp [h8, h9, h10, h11, h12, h13, h14, h15, h16, h17, h18])) ?_
 exact ye
 refine o_eq (congrArg (fun q => (⟨L23 ++ L19 ++ [(59, vb q), (60, vb q)], [B2], H⟩ : St)) h16) ?_
 refine yr 9 ⟨L23 ++ L26 ++ [E7, E8], [B2], H⟩ ?_
 rcases bool_cases (!r6) with h19 | h19
 refine o_eq (congrArg (fun q => (⟨L23 ++ L26 ++ [(68, vb q), (69, vb q)], [B2], H⟩ : St)) h19) ?_
 refine yr 5 ⟨L23 ++ L26 ++ L36, [B2], H⟩ ?_
 refine o_eq2 (congrArg (fun q0 => (⟨L10 ++ [(74, vb q0)], [B2], H⟩ : St)) (show (p0.C_ != 0) = ((decide (p0.A_ < 0)) || ((decide (p0.A_ > 15)) || ((decide (p0.B_ < 0)) || ((decide (p0.B_ > 15)) || ((decide (p0.C_ < 0)) || ((decide (p0.C_ > 15)) || (if (!r4) = true then ((p0.A_ != 0) || (if (!r5) = true then ((p0.B_ != 0) || ((!r6) && (p0.C_ != 0))) else ((!r6) && (p0.C_ != 0)))) else (if (!r5) = true then ((p0.B_ != 0) || ((!r6) && (p0.C_ != 0))) else ((!r6) && (p0.C_ != 0)))))))))) by simp [h8, h9, h10, h11, h12, h13, h14, h15, h16, h19])) ?_
 exact ye
 refine o_eq (congrArg (fun q => (⟨L23 ++ L26 ++ [(68, vb q), (69, vb q)], [B2], H⟩ : St)) h19) ?_
 refine yr 5 ⟨L23 ++ L26 ++ L34, [B2], H⟩ ?_
 refine o_eq2 (congrArg (fun q0 => (⟨L10 ++ [(74, vb q0)], [B2], H⟩ : St)) (show false = ((decide (p0.A_ < 0)) || ((decide (p0.A_ > 15)) || ((decide (p0.B_ < 0)) || ((decide (p0.B_ > 15)) || ((decide (p0.C_ < 0)) || ((decide (p0.C_ > 15)) || (if (!r4) = true then ((p0.A_ != 0) || (if (!r5) = true then ((p0.B_ != 0) || ((!r6) && (p0.C_ != 0))) else ((!r6) && (p0.C_ != 0)))) else (if (!r5) = true then ((p0.B_ != 0) || ((!r6) && (p0.C_ != 0))) else ((!r6) && (p0.C_ != 0)))))))))) by simp [h8, h9, h10, h11, h12, h13, h14, h15, h16, h19])) ?_
 exact ye
 refine o_eq (congrArg (fun q => (⟨L18 ++ [(50, vb q), (51, vb q)], [B2], H⟩ : St)) h14) ?_
 refine yr 9 ⟨L25 ++ L19 ++ [(59, vb (!r5)), (60, vb (!r5))], [B2], H⟩ ?_
 rcases bool_cases (!r5) with h20 | h20
 refine o_eq (congrArg (fun q => (⟨L25 ++ L19 ++ [(59, vb q), (60, vb q)], [B2], H⟩ : St)) h20) ?_
 refine yr 6 ⟨L25 ++ L22 ++ [(63, vb (p0.B_ != 0)), (64, vb (p0.B_ != 0)), (65, vb (p0.B_ != 0)), (66, vb (p0.B_ != 0))], [B2], H⟩ ?_
 rcases bool_cases (p0.B_ != 0) with h21 | h21
 refine o_eq (congrArg (fun q => (⟨L25 ++ L22 ++ [(63, vb q), (64, vb q), (65, vb q), (66, vb q)], [B2], H⟩ : St)) h21) ?_
 refine yr 8 ⟨L25 ++ L22 ++ [(63, vT), (64, vT)] ++ L27, [B2], H⟩ ?_
 refine o_eq2 (congrArg (fun q0 => (⟨L10 ++ [(74, vb q0)], [B2], H⟩ : St)) (show true = ((decide (p0.A_ < 0)) || ((decide (p0.A_ > 15)) || ((decide (p0.B_ < 0)) || ((decide (p0.B_ > 15)) || ((decide (p0.C_ < 0)) || ((decide (p0.C_ > 15)) || (if (!r4) = true then ((p0.A_ != 0) || (if (!r5) = true then ((p0.B_ != 0) || ((!r6) && (p0.C_ != 0))) else ((!r6) && (p0.C_ != 0)))) else (if (!r5) = true then ((p0.B_ != 0) || ((!r6) && (p0.C_ != 0))) else ((!r6) && (p0.C_ != 0)))))))))) by simp [h8, h9, h10, h11, h12, h13, h14, h20, h21])) ?_
 exact ye
 refine o_eq (congrArg (fun q => (⟨L25 ++ L22 ++ [(63, vb q), (64, vb q), (65, vb q), (66, vb q)], [B2], H⟩ : St)) h21) ?_
 refine yr 3 ⟨L31 ++ [E7, E8], [B2], H⟩ ?_
 rcases bool_cases (!r6) with h22 | h22
 refine o_eq (congrArg (fun q => (⟨L31 ++ [(68, vb q), (69, vb q)], [B2], H⟩ : St)) h22) ?_
 refine yr 5 ⟨L31 ++ L36, [B2], H⟩ ?_
 refine o_eq2 (congrArg (fun q0 => (⟨L10 ++ [(74, vb q0)], [B2], H⟩ : St)) (show (p0.C_ != 0) = ((decide (p0.A_ < 0)) || ((decide (p0.A_ > 15)) || ((decide (p0.B_ < 0)) || ((decide (p0.B_ > 15)) || ((decide (p0.C_ < 0)) || ((decide (p0.C_ > 15)) || (if (!r4) = true then ((p0.A_ != 0) || (if (!r5) = true then ((p0.B_ != 0) || ((!r6) && (p0.C_ != 0))) else ((!r6) && (p0.C_ != 0)))) else (if (!r5) = true then ((p0.B_ != 0) || ((!r6) && (p0.C_ != 0))) else ((!r6) && (p0.C_ != 0)))))))))) by simp [h8, h9, h10, h11, h12, h13, h14, h20, h21, h22])) ?_
 exact ye
 refine o_eq (congrArg (fun q => (⟨L31 ++ [(68, vb q), (69, vb q)], [B2], H⟩ : St)) h22) ?_
 refine yr 5 ⟨L31 ++ L34, [B2], H⟩ ?_
 refine o_eq2 (congrArg (fun q0 => (⟨L10 ++ [(74, vb q0)], [B2], H⟩ : St)) (show false = ((decide (p0.A_ < 0)) || ((decide (p0.A_ > 15)) || ((decide (p0.B_ < 0)) || ((decide (p0.B_ > 15)) || ((decide (p0.C_ < 0)) || ((decide (p0.C_ > 15)) || (if (!r4) = true then ((p0.A_ != 0) || (if (!r5) = true then ((p0.B_ != 0) || ((!r6) && (p0.C_ != 0))) else ((!r6) && (p0.C_ != 0)))) else (if (!r5) = true then ((p0.B_ != 0) || ((!r6) && (p0.C_ != 0))) else ((!r6) && (p0.C_ != 0)))))))))) by simp [h8, h9, h10, h11, h12, h13, h14, h20, h21, h22])) ?_
 exact ye
 refine o_eq (congrArg (fun q => (⟨L25 ++ L19 ++ [(59, vb q), (60, vb q)], [B2], H⟩ : St)) h20) ?_
 refine yr 9 ⟨L25 ++ L26 ++ [E7, E8], [B2], H⟩ ?_
 rcases bool_cases (!r6) with h23 | h23
 refine o_eq (congrArg (fun q => (⟨L25 ++ L26 ++ [(68, vb q), (69, vb q)], [B2], H⟩ : St)) h23) ?_
 refine yr 5 ⟨L25 ++ L26 ++ L36, [B2], H⟩ ?_
 refine o_eq2 (congrArg (fun q0 => (⟨L10 ++ [(74, vb q0)], [B2], H⟩ : St)) (show (p0.C_ != 0) = ((decide (p0.A_ < 0)) || ((decide (p0.A_ > 15)) || ((decide (p0.B_ < 0)) || ((decide (p0.B_ > 15)) || ((decide (p0.C_ < 0)) || ((decide (p0.C_ > 15)) || (if (!r4) = true then ((p0.A_ != 0) || (if (!r5) = true then ((p0.B_ != 0) || ((!r6) && (p0.C_ != 0))) else ((!r6) && (p0.C_ != 0)))) else (if (!r5) = true then ((p0.B_ != 0) || ((!r6) && (p0.C_ != 0))) else ((!r6) && (p0.C_ != 0)))))))))) by simp [h8, h9, h10, h11, h12, h13, h14, h20, h23])) ?_
 exact ye
 refine o_eq (congrArg (fun q => (⟨L25 ++ L26 ++ [(68, vb q), (69, vb q)], [B2], H⟩ : St)) h23) ?_
 refine yr 5 ⟨L25 ++ L26 ++ L34, [B2], H⟩ ?_
 refine o_eq2 (congrArg (fun q0 => (⟨L10 ++ [(74, vb q0)], [B2], H⟩ : St)) (show false = ((decide (p0.A_ < 0)) || ((decide (p0.A_ > 15)) || ((decide (p0.B_ < 0)) || ((decide (p0.B_ > 15)) || ((decide (p0.C_ < 0)) || ((decide (p0.C_ > 15)) || (if (!r4) = true then ((p0.A_ != 0) || (if (!r5) = true then ((p0.B_ != 0) || ((!r6) && (p0.C_ != 0))) else ((!r6) && (p0.C_ != 0)))) else (if (!r5) = true then ((p0.B_ != 0) || ((!r6) && (p0.C_ != 0))) else ((!r6) && (p0.C_ != 0)))))))))) by simp [h8, h9, h10, h11, h12, h13, h14, h20, h23])) ?_
 exact ye
 rcases if_inv hF with ⟨h24, hF⟩ | ⟨h24, hF⟩
 refine yT h24 S41 ?_
 refine ysg ⟨[(2, vi 20)], [], H⟩ ?_
 refine w_ret ?_
 obtain e0 := some1_inv hF
 subst e0
 exact yp (vi 20)
 refine yF h24 ⟨L10, [B2], H⟩ ?_
 refine w_skip ?_
 refine ysg ⟨L10 ++ [E9, (8, vi 0)], [B2], H⟩ ?_
 refine w_seq ?_
 refine ysg ⟨L24, [B2], H⟩ ?_
 refine w_block ?_
 refine w_seq ?_
 refine ysg ⟨L24 ++ [(76, vb (r1 == 1))], [B2], H⟩ ?_
 refine w_join (α := (Bool)) (fun x => (⟨L24 ++ [(76, vb x)], [B2], H⟩ : St)) (fun x => ref02_Check_j1 p0 r1 x = some ra) ?_ ?_
 rintro j25 hF
 replace hF : ref02_Check_j1 p0 r1 j25 = some ra := hF
 unfold ref02_Check_j1 at hF
 refine w_join (α := (Int × Int)) (fun x => (⟨[E1, (7, vi x.1), (8, vi x.2)], [B2], H⟩ : St)) (fun x => ref02_Check_j2 p0 x.1 x.2 = some ra) ?_ ?_
 rintro ⟨j26, j27⟩ hF
 replace hF : ref02_Check_j2 p0 j26 j27 = some ra := hF
 let L32 : List EN := [E1, (7, vi j26), (8, vi j27), (85, vl 1 4), (86, vi p0.Imm_), (87, vi j26)]
 unfold ref02_Check_j2 at hF
 refine w_seq ?_
 refine yso ⟨[(94, vb ((decide (p0.Imm_ < j26)) || (decide (p0.Imm_ > j27))))], [], H⟩ ?_ ?_
 refine yr 5 ⟨L32 ++ [(88, vb (decide (p0.Imm_ < j26))), (89, vb (decide (p0.Imm_ < j26)))], [B2], H⟩ ?_
 rcases bool_cases (decide (p0.Imm_ < j26)) with h28 | h28
 refine o_eq (congrArg (fun q => (⟨L32 ++ [(88, vb q), (89, vb q)], [B2], H⟩ : St)) h28) ?_
 refine yr 5 ⟨L32 ++ [(88, vT), (89, vT), (90, vN), (91, vN), (92, vN), (93, vN), (94, vT)], [B2], H⟩ ?_
 refine o_eq2 (congrArg (fun q0 => (⟨[(94, vb q0)], [], H⟩ : St)) (show true = ((decide (p0.Imm_ < j26)) || (decide (p0.Imm_ > j27))) by simp [h28])) ?_
 exact ye
 refine o_eq (congrArg (fun q => (⟨L32 ++ [(88, vb q), (89, vb q)], [B2], H⟩ : St)) h28) ?_
 refine yr 5 ⟨L32 ++ [(88, vF), (89, vF), (90, vl 1 4), (91, vi p0.Imm_), (92, vi j27), (93, vb (decide (p0.Imm_ > j27))), (94, vb (decide (p0.Imm_ > j27)))], [B2], H⟩ ?_
 refine o_eq2 (congrArg (fun q0 => (⟨[(94, vb q0)], [], H⟩ : St)) (show (decide (p0.Imm_ > j27)) = ((decide (p0.Imm_ < j26)) || (decide (p0.Imm_ > j27))) by simp [h28])) ?_
 exact ye
 rcases if_inv hF with ⟨h29, hF⟩ | ⟨h29, hF⟩
 refine yT h29 S41 ?_
 refine ysg ⟨[(2, vi 20)], [], H⟩ ?_
 refine w_ret ?_
 obtain e0 := some1_inv hF
 subst e0
 exact yp (vi 20)
 refine yF h29 S41 ?_
 refine w_skip ?_
 refine ysg ⟨[(2, vi 0)], [], H⟩ ?_
 refine w_ret ?_
 obtain e0 := some1_inv hF
 subst e0
 exact yp (vi 0)
 rcases if_inv hF with ⟨h30, hF⟩ | ⟨h30, hF⟩
 refine yT h30 S39 ?_
 refine yg ⟨[E1, (7, vi (-32768)), (8, vi 32767)], [B2], H⟩ ?_
 exact ⟨(-32768, 32767), hF, (by kernel_rfl)⟩
 refine yF h30 ⟨L24, [B2], H⟩ ?_
 refine w_seq ?_
 refine ysg ⟨L24 ++ [(79, vb (r1 == 2))], [B2], H⟩ ?_
 refine w_join (α := (Bool)) (fun x => (⟨L24 ++ [(79, vb x)], [B2], H⟩ : St)) (fun x => ref02_Check_j3 p0 r1 x = some ra) ?_ ?_
 rintro j31 hF
 replace hF : ref02_Check_j3 p0 r1 j31 = some ra := hF
 unfold ref02_Check_j3 at hF
 refine w_join (α := (Int × Int)) (fun x => (⟨[E1, (7, vi x.1), (8, vi x.2)], [B2], H⟩ : St)) (fun x => ref02_Check_j4 p0 x.1 x.2 = some ra) ?_ ?_
 rintro ⟨j32, j33⟩ hF
 replace hF : ref02_Check_j4 p0 j32 j33 = some ra := hF
 unfold ref02_Check_j4 at hF
 exact ⟨(j32, j33), hF, (by kernel_rfl)⟩
 rcases if_inv hF with ⟨h34, hF⟩ | ⟨h34, hF⟩
 refine yT h34 ⟨[E1, E9], [B2], H⟩ ?_
 refine yg ⟨[E1, E9, (8, vi 65535)], [B2], H⟩ ?_
 exact ⟨(0, 65535), hF, (by kernel_rfl)⟩
 refine yF h34 ⟨L24, [B2], H⟩ ?_
 refine ysg ⟨[E1, E9, (8, vi 0), (83, vb (r1 == 7))], [B2], H⟩ ?_
 refine w_join (α := (Int × Int)) (fun x => (⟨[E1, (7, vi x.1), (8, vi x.2)], [B2], H⟩ : St)) (fun x => ref02_Check_j5 p0 x.1 x.2 = some ra) ?_ ?_
 rintro ⟨j35, j36⟩ hF
 replace hF : ref02_Check_j5 p0 j35 j36 = some ra := hF
 unfold ref02_Check_j5 at hF
 exact ⟨(j35, j36), hF, (by kernel_rfl)⟩
 rcases if_inv hF with ⟨h37, hF⟩ | ⟨h37, hF⟩
 refine yT h37 S39 ?_
 refine yg ⟨[E1, (7, vi (-8388608)), (8, vi 8388607)], [B2], H⟩ ?_
 exact ⟨(-8388608, 8388607), hF, (by kernel_rfl)⟩
 refine yF h37 ⟨[E1, E9, (8, vi 0)], [B2], H⟩ ?_
 refine w_skip ?_
 exact ⟨(0, 0), hF, (by kernel_rfl)⟩
 rcases if_inv hF with ⟨h38, hF⟩ | ⟨h38, hF⟩
 refine yT h38 ⟨L24 ++ [(79, vb (r1 == 2))], [B2], H⟩ ?_
 refine w_skip ?_
 exact ⟨(r1 == 2), hF, (by kernel_rfl)⟩
 refine yF h38 ⟨L24, [B2], H⟩ ?_
 refine ysg ⟨L24 ++ [(79, vb (r1 == 4))], [B2], H⟩ ?_
 refine w_join (α := (Bool)) (fun x => (⟨L24 ++ [(79, vb x)], [B2], H⟩ : St)) (fun x => ref02_Check_j6 p0 r1 x = some ra) ?_ ?_
 rintro j39 hF
 replace hF : ref02_Check_j6 p0 r1 j39 = some ra := hF
 unfold ref02_Check_j6 at hF
 exact ⟨j39, hF, (by kernel_rfl)⟩
 rcases if_inv hF with ⟨h40, hF⟩ | ⟨h40, hF⟩
 refine yT h40 ⟨L24 ++ [(79, vb (r1 == 4))], [B2], H⟩ ?_
 refine w_skip ?_
 exact ⟨(r1 == 4), hF, (by kernel_rfl)⟩
 refine yF h40 ⟨L24, [B2], H⟩ ?_
 refine yg ⟨L24 ++ [(79, vb (r1 == 8))], [B2], H⟩ ?_
 exact ⟨(r1 == 8), hF, (by kernel_rfl)⟩
 rcases if_inv hF with ⟨h41, hF⟩ | ⟨h41, hF⟩
 refine yT h41 ⟨L24 ++ [(76, vb (r1 == 1))], [B2], H⟩ ?_
 refine w_skip ?_
 exact ⟨(r1 == 1), hF, (by kernel_rfl)⟩
 refine yF h41 ⟨L24, [B2], H⟩ ?_
 refine yg ⟨L24 ++ [(76, vb (r1 == 3))], [B2], H⟩ ?_
 exact ⟨(r1 == 3), hF, (by kernel_rfl)⟩
noncomputable def ref17_Fail_j1 (j1 : T_ref17_Code) : Option (T_ref17_Code) :=
  some j1
noncomputable def ref17_Fail  (p0 : T_ref17_Code) (p1 : Int) : Option (T_ref17_Code) :=
  if (p0.Err_ == 0) = true then (ref17_Fail_j1 (T_ref17_Code.mk p0.L_ p0.G_ p0.Fixups_ p0.Pads_ p0.Active_ p0.Depth_ p0.Most_ p1))
  else (ref17_Fail_j1 p0)
theorem ok_ref17_Fail (H : Heap) {p0 : T_ref17_Code} {p1 : Int} {ra : T_ref17_Code} (hF : ref17_Fail p0 p1 = some ra) : evS X 35 [.agg (m1_ref17_Code p0), .one .top (.int .i64 p1)] H = some (.agg (m1_ref17_Code ra), H) := by
 let B1 : EB := (2, (m1_ref17_Code p0))
 let B2 : EB := (4, [((.own 1), .sl 5 (List.map e_ref02_Instr ([] : List T_ref02_Instr))), ((.own 1), .sl 1 (List.map (eI .i64) ([] : List Int))), ((.own 1), .sl 4 (List.map e_api_Fixup ([] : List T_api_Fixup))), ((.own 1), .sl 1 (List.map (eI .i64) ([] : List Int))), ((.own 1), .sl 1 (List.map (eI .i64) ([] : List Int))), (.top, .int .i64 0), (.top, .int .i64 0), (.top, .int .i64 0)])
 let L3 : List EN := [(2, vl 2 0), (4, vl 4 0)]
 let S4 : St := ⟨[(1, vi p1)] ++ L3, [B1, B2], H⟩
 refine yf Try.func35 true ⟨[(0, .agg (m1_ref17_Code p0)), (1, vi p1)], [], H⟩ ?_
 unfold ref17_Fail at hF
 refine ysg S4 ?_
 refine w_seq ?_
 refine ysg ⟨[(1, vi p1)] ++ L3 ++ [(7, vb (p0.Err_ == 0))], [B1, B2], H⟩ ?_
 refine w_join (α := (T_ref17_Code)) (fun x => (⟨L3, [(2, (m1_ref17_Code x)), B2], H⟩ : St)) (fun x => ref17_Fail_j1 x = some ra) ?_ ?_
 rintro j1 hF
 replace hF : ref17_Fail_j1 j1 = some ra := hF
 unfold ref17_Fail_j1 at hF
 refine ysg ⟨[(4, vl 4 0)], [(4, (m1_ref17_Code j1))], H⟩ ?_
 refine w_ret ?_
 obtain e0 := some1_inv hF
 subst e0
 exact yp (.agg (m1_ref17_Code j1))
 rcases if_inv hF with ⟨h2, hF⟩ | ⟨h2, hF⟩
 refine yT h2 S4 ?_
 refine yg ⟨L3, [(2, [((.own 0), .sl 5 (List.map e_ref02_Instr p0.L_)), ((.own 0), .sl 1 (List.map (eI .i64) p0.G_)), ((.own 0), .sl 4 (List.map e_api_Fixup p0.Fixups_)), ((.own 0), .sl 1 (List.map (eI .i64) p0.Pads_)), ((.own 0), .sl 1 (List.map (eI .i64) p0.Active_)), (.top, .int .i64 p0.Depth_), (.top, .int .i64 p0.Most_), (.top, .int .i64 p1)]), B2], H⟩ ?_
 exact ⟨(T_ref17_Code.mk p0.L_ p0.G_ p0.Fixups_ p0.Pads_ p0.Active_ p0.Depth_ p0.Most_ p1), hF, (by kernel_rfl)⟩
 refine yF h2 ⟨L3, [B1, B2], H⟩ ?_
 refine w_skip ?_
 exact ⟨p0, hF, (by kernel_rfl)⟩
noncomputable def ref17_now  (p0 : T_ref17_Code) : Option (Int) :=
  if ((p0.Active_.length : Int) == 0) = true then (some (-1))
  else (bind1 (gi p0.Active_ (IntKind.wrap .i64 ((p0.Active_.length : Int) - 1))) fun x2 =>
  some x2)
theorem ok_ref17_now (H : Heap) {p0 : T_ref17_Code} {ra : Int} (hF : ref17_now p0 = some ra) : evS X 52 [.agg (m1_ref17_Code p0)] H = some (.one .top (.int .i64 ra), H) := by
 let E1 : EN := (1, vl 1 0)
 let B2 : EB := (1, (m1_ref17_Code p0))
 let E3 : EN := (6, vb ((p0.Active_.length : Int) == 0))
 let E4 : EN := (5, vi (p0.Active_.length : Int))
 let E5 : EN := (11, vi (p0.Active_.length : Int))
 let E6 : EN := (12, vi (IntKind.wrap .i64 ((p0.Active_.length : Int) - 1)))
 let E8 : EN := (8, .one (.own 0) (.sl 1 (List.map (eI .i64) p0.Active_)))
 let E9 : EN := (10, .one (.own 0) (.sl 1 (List.map (eI .i64) p0.Active_)))
 let L10 : List EN := [E1, (7, vl 1 4), E8, (9, vl 1 4), E9]
 let L11 : List EN := [E1, (3, vl 1 4), (4, .one (.own 0) (.sl 1 (List.map (eI .i64) p0.Active_)))]
 refine yf Try.func52 true ⟨[(0, .agg (m1_ref17_Code p0))], [], H⟩ ?_
 unfold ref17_now at hF
 refine ysg ⟨[E1], [B2], H⟩ ?_
 refine w_seq ?_
 refine yso ⟨[E1, E3], [B2], H⟩ ?_ ?_
 refine yr 2 ⟨L11, [B2], H⟩ ?_
 refine o_one ⟨L11 ++ [E4], [B2], H⟩ (yl (⟨L11, [B2], H⟩ : St) p0.Active_ (eI .i64) (some 5)) ?_
 refine yr 1 ⟨L11 ++ [E4, E3], [B2], H⟩ ?_
 exact ye
 rcases if_inv hF with ⟨h1, hF⟩ | ⟨h1, hF⟩
 refine yT h1 ⟨[], [], H⟩ ?_
 refine ysg ⟨[(2, vi (-1))], [], H⟩ ?_
 refine w_ret ?_
 obtain e0 := some1_inv hF
 subst e0
 exact yp (vi (-1))
 refine yF h1 ⟨[E1], [B2], H⟩ ?_
 refine w_skip ?_
 refine w_seq ?_
 obtain ⟨x2, h3, hF⟩ := bind1_inv hF
 let E7 : EN := (13, .one .top (.rd (.own 0) (.own 0) [.int .i64 x2] 0))
 refine w_regO ⟨[(2, vi x2)], [], H⟩ ?_ ?_
 refine yr 4 ⟨L10, [B2], H⟩ ?_
 refine o_one ⟨L10 ++ [E5], [B2], H⟩ (yl (⟨L10, [B2], H⟩ : St) p0.Active_ (eI .i64) (some 11)) ?_
 refine yr 1 ⟨L10 ++ [E5, E6], [B2], H⟩ ?_
 refine o_one ⟨L10 ++ [E5, E6, E7], [B2], H⟩ (st_ix (X := X) (⟨L10 ++ [E5, E6], [B2], H⟩ : St) 26 3 1 h3 (eI .i64) (.own 0) (some 13) (by kernel_rfl) (by kernel_rfl) (by kernel_rfl) (by kernel_rfl)) ?_
 refine yr 2 ⟨[E1, (2, vi x2), (7, vl 1 4), E8, (9, vl 1 4), E9, E5, E6, E7, (14, vi x2)], [B2], H⟩ ?_
 exact ye
 refine w_ret ?_
 obtain e0 := some1_inv hF
 subst e0
 exact yp (vi x2)
noncomputable def ref17_Put_j1 (j3 : T_ref17_Code) (j4 : T_ref02_Instr) : Option (T_ref17_Code) :=
  if (decide ((j3.L_.length : Int) ≥ 16384)) = true then (bind1 (ref17_Fail j3 242) fun r6 =>
  some r6)
  else (bind1 (app 40 ([] : List T_ref02_Instr) j3.L_) fun v8 =>
  bind1 (app 40 v8 ([j4] : List T_ref02_Instr)) fun v10 =>
  bind1 (app 8 ([] : List Int) j3.G_) fun v12 =>
  bind1 (ref17_now (T_ref17_Code.mk v10 j3.G_ j3.Fixups_ j3.Pads_ j3.Active_ j3.Depth_ j3.Most_ j3.Err_)) fun r14 =>
  bind1 (app 8 v12 ([r14] : List Int)) fun v16 =>
  some (T_ref17_Code.mk v10 v16 j3.Fixups_ j3.Pads_ j3.Active_ j3.Depth_ j3.Most_ j3.Err_))
noncomputable def ref17_Put  (p0 : T_ref17_Code) (p1 : T_ref02_Instr) : Option (T_ref17_Code) :=
  bind1 (ref02_Check p1) fun r1 =>
  if (r1 != 0) = true then (bind1 (ref17_Fail p0 r1) fun r19 =>
  ref17_Put_j1 r19 (T_ref02_Instr.mk 1 0 0 0 0))
  else (ref17_Put_j1 p0 p1)
theorem ok_ref17_Put (H : Heap) {p0 : T_ref17_Code} {p1 : T_ref02_Instr} {ra : T_ref17_Code} (hF : ref17_Put p0 p1 = some ra) : evS X 36 [.agg (m1_ref17_Code p0), .agg (m0_ref02_Instr p1)] H = some (.agg (m1_ref17_Code ra), H) := by
 let B1 : EB := (2, (m1_ref17_Code p0))
 let B2 : EB := (3, (m0_ref02_Instr p1))
 let B3 : EB := (4, [((.own 1), .sl 5 (List.map e_ref02_Instr ([] : List T_ref02_Instr))), ((.own 1), .sl 1 (List.map (eI .i64) ([] : List Int))), ((.own 1), .sl 4 (List.map e_api_Fixup ([] : List T_api_Fixup))), ((.own 1), .sl 1 (List.map (eI .i64) ([] : List Int))), ((.own 1), .sl 1 (List.map (eI .i64) ([] : List Int))), (.top, .int .i64 0), (.top, .int .i64 0), (.top, .int .i64 0)])
 let E4 : EN := (6, .agg (m0_ref02_Instr p1))
 let E9 : EN := (4, vl 4 0)
 let E13 : EN := (21, vl 2 0)
 let E17 : EN := (29, vl 2 1)
 let L22 : List EN := [(2, vl 2 0), E9]
 let L23 : List EN := [(2, vl 2 0), (3, vl 3 0), E9]
 let L37 : List EN := L22 ++ [(28, .one (.own 1) (.sl 1 (List.map (eI .i64) ([] : List Int))))]
 let L38 : List EN := L23 ++ [(20, .one (.own 1) (.sl 5 (List.map e_ref02_Instr ([] : List T_ref02_Instr))))]
 refine yf Try.func36 true ⟨[(0, .agg (m1_ref17_Code p0)), (1, .agg (m0_ref02_Instr p1))], [], H⟩ ?_
 unfold ref17_Put at hF
 refine ysg ⟨L23, [B1, B2, B3], H⟩ ?_
 refine w_seq ?_
 refine w_seq ?_
 obtain ⟨r1, c2, hF⟩ := bind1_inv hF
 let L39 : List EN := L23 ++ [(5, vi r1)]
 let L46 : List EN := L39 ++ [(10, .agg (m1_ref17_Code p0)), (11, vi r1)]
 refine w_regO ⟨L39, [B1, B2, B3], H⟩ ?_ ?_
 refine yr 1 ⟨L23 ++ [E4], [B1, B2, B3], H⟩ ?_
 refine o_one ⟨L23 ++ [E4, (7, vi r1)], [B1, B2, B3], H⟩ (yc (some 7) true false (⟨L23 ++ [E4], [B1, B2, B3], H⟩ : St) (ok_ref02_Check H c2)) ?_
 refine yr 1 ⟨L39 ++ [E4, (7, vi r1)], [B1, B2, B3], H⟩ ?_
 exact ye
 refine ysg ⟨L39 ++ [(9, vb (r1 != 0))], [B1, B2, B3], H⟩ ?_
 refine w_join (α := (T_ref17_Code × T_ref02_Instr)) (fun x => (⟨L23, [(2, (m1_ref17_Code x.1)), (3, (m0_ref02_Instr x.2)), B3], H⟩ : St)) (fun x => ref17_Put_j1 x.1 x.2 = some ra) ?_ ?_
 rintro ⟨j3, j4⟩ hF
 replace hF : ref17_Put_j1 j3 j4 = some ra := hF
 let E5 : EN := (17, vb (decide ((j3.L_.length : Int) ≥ 16384)))
 let B6 : EB := (2, (m1_ref17_Code j3))
 let B7 : EB := (3, (m0_ref02_Instr j4))
 let E8 : EN := (16, vi (j3.L_.length : Int))
 let E10 : EN := (18, .agg (m1_ref17_Code j3))
 let E14 : EN := (24, .agg (m0_ref02_Instr j4))
 let L24 : List EN := [E17, (30, .one (.own 0) (.sl 1 (List.map (eI .i64) j3.G_)))]
 let L25 : List EN := L22 ++ [(28, .one .top .junk)] ++ L24
 let L26 : List EN := [E13, (22, .one (.own 0) (.sl 5 (List.map e_ref02_Instr j3.L_)))]
 let L27 : List EN := L23 ++ [(20, .one .top .junk)] ++ L26
 let L28 : List EN := L27 ++ [(23, .one .top .junk), E14, (25, .one .top .junk)]
 let L30 : List EN := [E14, (25, .one (.own 1) (.sl 5 (List.map e_ref02_Instr ([j4] : List T_ref02_Instr))))]
 let L44 : List EN := L38 ++ L26 ++ L30
 let L45 : List EN := L23 ++ [(14, vl 2 0), (15, .one (.own 0) (.sl 5 (List.map e_ref02_Instr j3.L_)))]
 unfold ref17_Put_j1 at hF
 refine w_seq ?_
 refine yso ⟨L23 ++ [E5], [B6, B7, B3], H⟩ ?_ ?_
 refine yr 2 ⟨L45, [B6, B7, B3], H⟩ ?_
 refine o_one ⟨L45 ++ [E8], [B6, B7, B3], H⟩ (yl (⟨L45, [B6, B7, B3], H⟩ : St) j3.L_ e_ref02_Instr (some 16)) ?_
 refine yr 1 ⟨L45 ++ [E8, E5], [B6, B7, B3], H⟩ ?_
 exact ye
 rcases if_inv hF with ⟨h5, hF⟩ | ⟨h5, hF⟩
 refine yT h5 ⟨L22, [B6, B3], H⟩ ?_
 refine w_seq ?_
 obtain ⟨r6, c7, hF⟩ := bind1_inv hF
 let E11 : EN := (19, .agg (m1_ref17_Code r6))
 refine w_regO ⟨[E9], [(4, (m1_ref17_Code r6))], H⟩ ?_ ?_
 refine yr 1 ⟨L22 ++ [E10], [B6, B3], H⟩ ?_
 refine o_one ⟨L22 ++ [E10, E11], [B6, B3], H⟩ (yc (some 19) true false (⟨L22 ++ [E10], [B6, B3], H⟩ : St) (ok_ref17_Fail H c7)) ?_
 refine yr 1 ⟨L22 ++ [E10, E11], [B6, (4, (m1_ref17_Code r6))], H⟩ ?_
 exact ye
 refine w_ret ?_
 obtain e0 := some1_inv hF
 subst e0
 exact yp (.agg (m1_ref17_Code r6))
 refine yF h5 ⟨L23, [B6, B7, B3], H⟩ ?_
 refine w_skip ?_
 refine w_seq ?_
 obtain ⟨v8, h9, hF⟩ := bind1_inv hF
 let E15 : EN := (23, .one (.own 1) (.sl 5 (List.map e_ref02_Instr v8)))
 let L41 : List EN := L27 ++ [E15] ++ L30
 obtain ⟨v10, h11, hF⟩ := bind1_inv hF
 let B12 : EB := (2, [((.own 0), .sl 5 (List.map e_ref02_Instr v10)), ((.own 0), .sl 1 (List.map (eI .i64) j3.G_)), ((.own 0), .sl 4 (List.map e_api_Fixup j3.Fixups_)), ((.own 0), .sl 1 (List.map (eI .i64) j3.Pads_)), ((.own 0), .sl 1 (List.map (eI .i64) j3.Active_)), (.top, .int .i64 j3.Depth_), (.top, .int .i64 j3.Most_), (.top, .int .i64 j3.Err_)])
 let E19 : EN := (32, .agg [((.own 0), .sl 5 (List.map e_ref02_Instr v10)), ((.own 0), .sl 1 (List.map (eI .i64) j3.G_)), ((.own 0), .sl 4 (List.map e_api_Fixup j3.Fixups_)), ((.own 0), .sl 1 (List.map (eI .i64) j3.Pads_)), ((.own 0), .sl 1 (List.map (eI .i64) j3.Active_)), (.top, .int .i64 j3.Depth_), (.top, .int .i64 j3.Most_), (.top, .int .i64 j3.Err_)])
 let L31 : List EN := L28 ++ [(26, .one (.own 0) (.sl 5 (List.map e_ref02_Instr v10)))]
 let L33 : List EN := L31 ++ [(27, vl 2 0)]
 let L42 : List EN := L25 ++ [E19]
 let L43 : List EN := L37 ++ L24 ++ [E19]
 let K48 : Sch := .last 2 (.last 3 (.last 6 (.take 7 (.last 8 .done))))
 let K49 : Sch := .last 0 (.last 3 (.last 6 (.take 7 (.last 8 .done))))
 let K47 : Sch := .alt 3 (.last 5 (.last 6 (.take 7 (.last 8 .done)))) (.last 5 (.last 3 (.last 6 (.take 7 (.last 8 .done)))))
 refine w_regD (.take 1 (.take 4 (.alt 0 (.alt 2 K47 (.last 5 K48)) (.alt 2 (.alt 0 K47 (.last 5 K49)) (.last 5 (.alt 0 K48 (.last 2 K49))))))) (by kernel_rfl) (⟨L22, [B12, B3], H⟩ : St) ?_ ?_
 refine ydk 2 ⟨L23 ++ [E13, E14], [B6, B7, B3], H⟩ ?_
 refine q_in (⟨L33, [B12, B7, B3], H⟩ : St) ?_ ?_
 refine q_alt ⟨L38 ++ [E13, E14], [B6, B7, B3], H⟩ (by kernel_rfl) ?_ ?_
 refine q_alt ⟨L38 ++ L26 ++ [E14], [B6, B7, B3], H⟩ (by kernel_rfl) ?_ ?_
 refine q_alt ⟨L27 ++ [E15, E14], [B6, B7, B3], H⟩ (st_app (X := X) (⟨L27 ++ [E14], [B6, B7, B3], H⟩ : St) 40 h9 25 25 69 5 0 (List.replicate 5 (.top, .int .i64 0)) (.own 0) e_ref02_Instr 0 (some 23) (by kernel_rfl) (by kernel_rfl) (by kernel_rfl) (by kernel_rfl) (by kernel_rfl) (by kernel_rfl) (by kernel_rfl) (by kernel_rfl) (by kernel_rfl) (fun _ => rfl) (by kernel_rfl)) ?_ ?_
 refine yql ⟨L41, [B6, B7, B3], H⟩ ?_
 refine q_last ⟨L31, [B6, B7, B3], H⟩ (st_appZ (X := X) (⟨L28, [B6, B7, B3], H⟩ : St) 40 h11 25 25 69 5 0 (List.replicate 5 (.top, .int .i64 0)) (.own 1) e_ref02_Instr 0 (some 26) (by kernel_rfl) (by kernel_rfl) (by kernel_rfl) (by kernel_rfl) (by kernel_rfl) (by kernel_rfl) (by kernel_rfl) (by kernel_rfl) (by kernel_rfl) (fun _ => rfl) (by kernel_rfl)) ?_
 refine yqt ⟨L33, [B6, B7, B3], H⟩ ?_
 refine yql ⟨L33, [B12, B7, B3], H⟩ ?_
 exact yqe
 refine yql ⟨L44, [B6, B7, B3], H⟩ ?_
 refine q_last ⟨L41, [B6, B7, B3], H⟩ (st_app (X := X) (⟨L27 ++ L30, [B6, B7, B3], H⟩ : St) 40 h9 25 25 69 5 0 (List.replicate 5 (.top, .int .i64 0)) (.own 0) e_ref02_Instr 0 (some 23) (by kernel_rfl) (by kernel_rfl) (by kernel_rfl) (by kernel_rfl) (by kernel_rfl) (by kernel_rfl) (by kernel_rfl) (by kernel_rfl) (by kernel_rfl) (fun _ => rfl) (by kernel_rfl)) ?_
 refine q_last ⟨L31, [B6, B7, B3], H⟩ (st_appZ (X := X) (⟨L28, [B6, B7, B3], H⟩ : St) 40 h11 25 25 69 5 0 (List.replicate 5 (.top, .int .i64 0)) (.own 1) e_ref02_Instr 0 (some 26) (by kernel_rfl) (by kernel_rfl) (by kernel_rfl) (by kernel_rfl) (by kernel_rfl) (by kernel_rfl) (by kernel_rfl) (by kernel_rfl) (by kernel_rfl) (fun _ => rfl) (by kernel_rfl)) ?_
 refine yqt ⟨L33, [B6, B7, B3], H⟩ ?_
 refine yql ⟨L33, [B12, B7, B3], H⟩ ?_
 exact yqe
 refine yql ⟨L38 ++ [E13] ++ L30, [B6, B7, B3], H⟩ ?_
 refine yql ⟨L44, [B6, B7, B3], H⟩ ?_
 refine q_last ⟨L41, [B6, B7, B3], H⟩ (st_app (X := X) (⟨L27 ++ L30, [B6, B7, B3], H⟩ : St) 40 h9 25 25 69 5 0 (List.replicate 5 (.top, .int .i64 0)) (.own 0) e_ref02_Instr 0 (some 23) (by kernel_rfl) (by kernel_rfl) (by kernel_rfl) (by kernel_rfl) (by kernel_rfl) (by kernel_rfl) (by kernel_rfl) (by kernel_rfl) (by kernel_rfl) (fun _ => rfl) (by kernel_rfl)) ?_
 refine q_last ⟨L31, [B6, B7, B3], H⟩ (st_appZ (X := X) (⟨L28, [B6, B7, B3], H⟩ : St) 40 h11 25 25 69 5 0 (List.replicate 5 (.top, .int .i64 0)) (.own 1) e_ref02_Instr 0 (some 26) (by kernel_rfl) (by kernel_rfl) (by kernel_rfl) (by kernel_rfl) (by kernel_rfl) (by kernel_rfl) (by kernel_rfl) (by kernel_rfl) (by kernel_rfl) (fun _ => rfl) (by kernel_rfl)) ?_
 refine yqt ⟨L33, [B6, B7, B3], H⟩ ?_
 refine yql ⟨L33, [B12, B7, B3], H⟩ ?_
 exact yqe
 refine q_alt ⟨L23 ++ L26 ++ [E14], [B6, B7, B3], H⟩ (by kernel_rfl) ?_ ?_
 refine q_alt ⟨L38 ++ L26 ++ [E14], [B6, B7, B3], H⟩ (by kernel_rfl) ?_ ?_
 refine q_alt ⟨L27 ++ [E15, E14], [B6, B7, B3], H⟩ (st_app (X := X) (⟨L27 ++ [E14], [B6, B7, B3], H⟩ : St) 40 h9 25 25 69 5 0 (List.replicate 5 (.top, .int .i64 0)) (.own 0) e_ref02_Instr 0 (some 23) (by kernel_rfl) (by kernel_rfl) (by kernel_rfl) (by kernel_rfl) (by kernel_rfl) (by kernel_rfl) (by kernel_rfl) (by kernel_rfl) (by kernel_rfl) (fun _ => rfl) (by kernel_rfl)) ?_ ?_
 refine yql ⟨L41, [B6, B7, B3], H⟩ ?_
 refine q_last ⟨L31, [B6, B7, B3], H⟩ (st_appZ (X := X) (⟨L28, [B6, B7, B3], H⟩ : St) 40 h11 25 25 69 5 0 (List.replicate 5 (.top, .int .i64 0)) (.own 1) e_ref02_Instr 0 (some 26) (by kernel_rfl) (by kernel_rfl) (by kernel_rfl) (by kernel_rfl) (by kernel_rfl) (by kernel_rfl) (by kernel_rfl) (by kernel_rfl) (by kernel_rfl) (fun _ => rfl) (by kernel_rfl)) ?_
 refine yqt ⟨L33, [B6, B7, B3], H⟩ ?_
 refine yql ⟨L33, [B12, B7, B3], H⟩ ?_
 exact yqe
 refine yql ⟨L44, [B6, B7, B3], H⟩ ?_
 refine q_last ⟨L41, [B6, B7, B3], H⟩ (st_app (X := X) (⟨L27 ++ L30, [B6, B7, B3], H⟩ : St) 40 h9 25 25 69 5 0 (List.replicate 5 (.top, .int .i64 0)) (.own 0) e_ref02_Instr 0 (some 23) (by kernel_rfl) (by kernel_rfl) (by kernel_rfl) (by kernel_rfl) (by kernel_rfl) (by kernel_rfl) (by kernel_rfl) (by kernel_rfl) (by kernel_rfl) (fun _ => rfl) (by kernel_rfl)) ?_
 refine q_last ⟨L31, [B6, B7, B3], H⟩ (st_appZ (X := X) (⟨L28, [B6, B7, B3], H⟩ : St) 40 h11 25 25 69 5 0 (List.replicate 5 (.top, .int .i64 0)) (.own 1) e_ref02_Instr 0 (some 26) (by kernel_rfl) (by kernel_rfl) (by kernel_rfl) (by kernel_rfl) (by kernel_rfl) (by kernel_rfl) (by kernel_rfl) (by kernel_rfl) (by kernel_rfl) (fun _ => rfl) (by kernel_rfl)) ?_
 refine yqt ⟨L33, [B6, B7, B3], H⟩ ?_
 refine yql ⟨L33, [B12, B7, B3], H⟩ ?_
 exact yqe
 refine yql ⟨L23 ++ L26 ++ L30, [B6, B7, B3], H⟩ ?_
 refine yql ⟨L44, [B6, B7, B3], H⟩ ?_
 refine q_last ⟨L41, [B6, B7, B3], H⟩ (st_app (X := X) (⟨L27 ++ L30, [B6, B7, B3], H⟩ : St) 40 h9 25 25 69 5 0 (List.replicate 5 (.top, .int .i64 0)) (.own 0) e_ref02_Instr 0 (some 23) (by kernel_rfl) (by kernel_rfl) (by kernel_rfl) (by kernel_rfl) (by kernel_rfl) (by kernel_rfl) (by kernel_rfl) (by kernel_rfl) (by kernel_rfl) (fun _ => rfl) (by kernel_rfl)) ?_
 refine q_last ⟨L31, [B6, B7, B3], H⟩ (st_appZ (X := X) (⟨L28, [B6, B7, B3], H⟩ : St) 40 h11 25 25 69 5 0 (List.replicate 5 (.top, .int .i64 0)) (.own 1) e_ref02_Instr 0 (some 26) (by kernel_rfl) (by kernel_rfl) (by kernel_rfl) (by kernel_rfl) (by kernel_rfl) (by kernel_rfl) (by kernel_rfl) (by kernel_rfl) (by kernel_rfl) (fun _ => rfl) (by kernel_rfl)) ?_
 refine yqt ⟨L33, [B6, B7, B3], H⟩ ?_
 refine yql ⟨L33, [B12, B7, B3], H⟩ ?_
 exact yqe
 refine yql ⟨L23 ++ [E13] ++ L30, [B6, B7, B3], H⟩ ?_
 refine q_alt ⟨L38 ++ [E13] ++ L30, [B6, B7, B3], H⟩ (by kernel_rfl) ?_ ?_
 refine yql ⟨L44, [B6, B7, B3], H⟩ ?_
 refine q_last ⟨L41, [B6, B7, B3], H⟩ (st_app (X := X) (⟨L27 ++ L30, [B6, B7, B3], H⟩ : St) 40 h9 25 25 69 5 0 (List.replicate 5 (.top, .int .i64 0)) (.own 0) e_ref02_Instr 0 (some 23) (by kernel_rfl) (by kernel_rfl) (by kernel_rfl) (by kernel_rfl) (by kernel_rfl) (by kernel_rfl) (by kernel_rfl) (by kernel_rfl) (by kernel_rfl) (fun _ => rfl) (by kernel_rfl)) ?_
 refine q_last ⟨L31, [B6, B7, B3], H⟩ (st_appZ (X := X) (⟨L28, [B6, B7, B3], H⟩ : St) 40 h11 25 25 69 5 0 (List.replicate 5 (.top, .int .i64 0)) (.own 1) e_ref02_Instr 0 (some 26) (by kernel_rfl) (by kernel_rfl) (by kernel_rfl) (by kernel_rfl) (by kernel_rfl) (by kernel_rfl) (by kernel_rfl) (by kernel_rfl) (by kernel_rfl) (fun _ => rfl) (by kernel_rfl)) ?_
 refine yqt ⟨L33, [B6, B7, B3], H⟩ ?_
 refine yql ⟨L33, [B12, B7, B3], H⟩ ?_
 exact yqe
 refine yql ⟨L23 ++ L26 ++ L30, [B6, B7, B3], H⟩ ?_
 refine yql ⟨L44, [B6, B7, B3], H⟩ ?_
 refine q_last ⟨L41, [B6, B7, B3], H⟩ (st_app (X := X) (⟨L27 ++ L30, [B6, B7, B3], H⟩ : St) 40 h9 25 25 69 5 0 (List.replicate 5 (.top, .int .i64 0)) (.own 0) e_ref02_Instr 0 (some 23) (by kernel_rfl) (by kernel_rfl) (by kernel_rfl) (by kernel_rfl) (by kernel_rfl) (by kernel_rfl) (by kernel_rfl) (by kernel_rfl) (by kernel_rfl) (fun _ => rfl) (by kernel_rfl)) ?_
 refine q_last ⟨L31, [B6, B7, B3], H⟩ (st_appZ (X := X) (⟨L28, [B6, B7, B3], H⟩ : St) 40 h11 25 25 69 5 0 (List.replicate 5 (.top, .int .i64 0)) (.own 1) e_ref02_Instr 0 (some 26) (by kernel_rfl) (by kernel_rfl) (by kernel_rfl) (by kernel_rfl) (by kernel_rfl) (by kernel_rfl) (by kernel_rfl) (by kernel_rfl) (by kernel_rfl) (fun _ => rfl) (by kernel_rfl)) ?_
 refine yqt ⟨L33, [B6, B7, B3], H⟩ ?_
 refine yql ⟨L33, [B12, B7, B3], H⟩ ?_
 exact yqe
 kernel_rfl
 refine w_seq ?_
 obtain ⟨v12, h13, hF⟩ := bind1_inv hF
 let E18 : EN := (31, .one (.own 1) (.sl 1 (List.map (eI .i64) v12)))
 let L35 : List EN := L25 ++ [E18, E19]
 obtain ⟨r14, c15, hF⟩ := bind1_inv hF
 let L29 : List EN := L25 ++ [(31, .one .top .junk), E19, (33, vi r14), (34, .one .top .junk)]
 let L36 : List EN := L25 ++ [E18, E19, (33, vi r14)]
 let L40 : List EN := L36 ++ [(34, .one (.own 1) (.sl 1 (List.map (eI .i64) ([r14] : List Int))))]
 obtain ⟨v16, h17, hF⟩ := bind1_inv hF
 let B16 : EB := (2, [((.own 0), .sl 5 (List.map e_ref02_Instr v10)), ((.own 0), .sl 1 (List.map (eI .i64) v16)), ((.own 0), .sl 4 (List.map e_api_Fixup j3.Fixups_)), ((.own 0), .sl 1 (List.map (eI .i64) j3.Pads_)), ((.own 0), .sl 1 (List.map (eI .i64) j3.Active_)), (.top, .int .i64 j3.Depth_), (.top, .int .i64 j3.Most_), (.top, .int .i64 j3.Err_)])
 let L32 : List EN := L29 ++ [(35, .one (.own 0) (.sl 1 (List.map (eI .i64) v16)))]
 let L34 : List EN := L32 ++ [(36, vl 2 1)]
 let K51 : Sch := .last 2 (.last 3 (.last 5 (.last 6 (.last 7 (.take 8 (.last 9 .done))))))
 let K52 : Sch := .last 0 (.last 3 (.last 5 (.last 6 (.last 7 (.take 8 (.last 9 .done))))))
 let K50 : Sch := .alt 3 (.last 4 (.last 5 (.last 6 (.last 7 (.take 8 (.last 9 .done)))))) (.last 4 (.last 3 (.last 5 (.last 6 (.last 7 (.take 8 (.last 9 .done)))))))
 refine w_regD (.take 1 (.alt 0 (.alt 2 K50 (.last 4 K51)) (.alt 2 (.alt 0 K50 (.last 4 K52)) (.last 4 (.alt 0 K51 (.last 2 K52)))))) (by kernel_rfl) (⟨L22, [B16, B3], H⟩ : St) ?_ ?_
 refine ydt ⟨L22 ++ [E17], [B12, B3], H⟩ ?_
 refine q_in (⟨L34, [B16, B3], H⟩ : St) ?_ ?_
 refine q_alt ⟨L37 ++ [E17], [B12, B3], H⟩ (by kernel_rfl) ?_ ?_
 refine q_alt ⟨L37 ++ L24, [B12, B3], H⟩ (by kernel_rfl) ?_ ?_
 refine q_alt ⟨L25 ++ [E18], [B12, B3], H⟩ (st_app (X := X) (⟨L25, [B12, B3], H⟩ : St) 8 h13 26 26 3 1 0 [(.top, .int .i64 0)] (.own 0) (eI .i64) 0 (some 31) (by kernel_rfl) (by kernel_rfl) (by kernel_rfl) (by kernel_rfl) (by kernel_rfl) (by kernel_rfl) (by kernel_rfl) (by kernel_rfl) (by kernel_rfl) (fun _ => rfl) (by kernel_rfl)) ?_ ?_
 refine yql ⟨L35, [B12, B3], H⟩ ?_
 refine q_last ⟨L36, [B12, B3], H⟩ (yc (some 33) true false (⟨L35, [B12, B3], H⟩ : St) (ok_ref17_now H c15)) ?_
 refine yql ⟨L40, [B12, B3], H⟩ ?_
 refine q_last ⟨L32, [B12, B3], H⟩ (st_appZ (X := X) (⟨L29, [B12, B3], H⟩ : St) 8 h17 26 26 3 1 0 [(.top, .int .i64 0)] (.own 1) (eI .i64) 0 (some 35) (by kernel_rfl) (by kernel_rfl) (by kernel_rfl) (by kernel_rfl) (by kernel_rfl) (by kernel_rfl) (by kernel_rfl) (by kernel_rfl) (by kernel_rfl) (fun _ => rfl) (by kernel_rfl)) ?_
 refine yqt ⟨L34, [B12, B3], H⟩ ?_
 refine yql ⟨L34, [B16, B3], H⟩ ?_
 exact yqe
 refine yql ⟨L43, [B12, B3], H⟩ ?_
 refine q_last ⟨L35, [B12, B3], H⟩ (st_app (X := X) (⟨L42, [B12, B3], H⟩ : St) 8 h13 26 26 3 1 0 [(.top, .int .i64 0)] (.own 0) (eI .i64) 0 (some 31) (by kernel_rfl) (by kernel_rfl) (by kernel_rfl) (by kernel_rfl) (by kernel_rfl) (by kernel_rfl) (by kernel_rfl) (by kernel_rfl) (by kernel_rfl) (fun _ => rfl) (by kernel_rfl)) ?_
 refine q_last ⟨L36, [B12, B3], H⟩ (yc (some 33) true false (⟨L35, [B12, B3], H⟩ : St) (ok_ref17_now H c15)) ?_
 refine yql ⟨L40, [B12, B3], H⟩ ?_
 refine q_last ⟨L32, [B12, B3], H⟩ (st_appZ (X := X) (⟨L29, [B12, B3], H⟩ : St) 8 h17 26 26 3 1 0 [(.top, .int .i64 0)] (.own 1) (eI .i64) 0 (some 35) (by kernel_rfl) (by kernel_rfl) (by kernel_rfl) (by kernel_rfl) (by kernel_rfl) (by kernel_rfl) (by kernel_rfl) (by kernel_rfl) (by kernel_rfl) (fun _ => rfl) (by kernel_rfl)) ?_
 refine yqt ⟨L34, [B12, B3], H⟩ ?_
 refine yql ⟨L34, [B16, B3], H⟩ ?_
 exact yqe
 refine yql ⟨L37 ++ [E17, E19], [B12, B3], H⟩ ?_
 refine yql ⟨L43, [B12, B3], H⟩ ?_
 refine q_last ⟨L35, [B12, B3], H⟩ (st_app (X := X) (⟨L42, [B12, B3], H⟩ : St) 8 h13 26 26 3 1 0 [(.top, .int .i64 0)] (.own 0) (eI .i64) 0 (some 31) (by kernel_rfl) (by kernel_rfl) (by kernel_rfl) (by kernel_rfl) (by kernel_rfl) (by kernel_rfl) (by kernel_rfl) (by kernel_rfl) (by kernel_rfl) (fun _ => rfl) (by kernel_rfl)) ?_
 refine q_last ⟨L36, [B12, B3], H⟩ (yc (some 33) true false (⟨L35, [B12, B3], H⟩ : St) (ok_ref17_now H c15)) ?_
 refine yql ⟨L40, [B12, B3], H⟩ ?_
 refine q_last ⟨L32, [B12, B3], H⟩ (st_appZ (X := X) (⟨L29, [B12, B3], H⟩ : St) 8 h17 26 26 3 1 0 [(.top, .int .i64 0)] (.own 1) (eI .i64) 0 (some 35) (by kernel_rfl) (by kernel_rfl) (by kernel_rfl) (by kernel_rfl) (by kernel_rfl) (by kernel_rfl) (by kernel_rfl) (by kernel_rfl) (by kernel_rfl) (fun _ => rfl) (by kernel_rfl)) ?_
 refine yqt ⟨L34, [B12, B3], H⟩ ?_
 refine yql ⟨L34, [B16, B3], H⟩ ?_
 exact yqe
 refine q_alt ⟨L22 ++ L24, [B12, B3], H⟩ (by kernel_rfl) ?_ ?_
 refine q_alt ⟨L37 ++ L24, [B12, B3], H⟩ (by kernel_rfl) ?_ ?_
 refine q_alt ⟨L25 ++ [E18], [B12, B3], H⟩ (st_app (X := X) (⟨L25, [B12, B3], H⟩ : St) 8 h13 26 26 3 1 0 [(.top, .int .i64 0)] (.own 0) (eI .i64) 0 (some 31) (by kernel_rfl) (by kernel_rfl) (by kernel_rfl) (by kernel_rfl) (by kernel_rfl) (by kernel_rfl) (by kernel_rfl) (by kernel_rfl) (by kernel_rfl) (fun _ => rfl) (by kernel_rfl)) ?_ ?_
 refine yql ⟨L35, [B12, B3], H⟩ ?_
 refine q_last ⟨L36, [B12, B3], H⟩ (yc (some 33) true false (⟨L35, [B12, B3], H⟩ : St) (ok_ref17_now H c15)) ?_
 refine yql ⟨L40, [B12, B3], H⟩ ?_
 refine q_last ⟨L32, [B12, B3], H⟩ (st_appZ (X := X) (⟨L29, [B12, B3], H⟩ : St) 8 h17 26 26 3 1 0 [(.top, .int .i64 0)] (.own 1) (eI .i64) 0 (some 35) (by kernel_rfl) (by kernel_rfl) (by kernel_rfl) (by kernel_rfl) (by kernel_rfl) (by kernel_rfl) (by kernel_rfl) (by kernel_rfl) (by kernel_rfl) (fun _ => rfl) (by kernel_rfl)) ?_
 refine yqt ⟨L34, [B12, B3], H⟩ ?_
 refine yql ⟨L34, [B16, B3], H⟩ ?_
 exact yqe
 refine yql ⟨L43, [B12, B3], H⟩ ?_
 refine q_last ⟨L35, [B12, B3], H⟩ (st_app (X := X) (⟨L42, [B12, B3], H⟩ : St) 8 h13 26 26 3 1 0 [(.top, .int .i64 0)] (.own 0) (eI .i64) 0 (some 31) (by kernel_rfl) (by kernel_rfl) (by kernel_rfl) (by kernel_rfl) (by kernel_rfl) (by kernel_rfl) (by kernel_rfl) (by kernel_rfl) (by kernel_rfl) (fun _ => rfl) (by kernel_rfl)) ?_
 refine q_last ⟨L36, [B12, B3], H⟩ (yc (some 33) true false (⟨L35, [B12, B3], H⟩ : St) (ok_ref17_now H c15)) ?_
 refine yql ⟨L40, [B12, B3], H⟩ ?_
 refine q_last ⟨L32, [B12, B3], H⟩ (st_appZ (X := X) (⟨L29, [B12, B3], H⟩ : St) 8 h17 26 26 3 1 0 [(.top, .int .i64 0)] (.own 1) (eI .i64) 0 (some 35) (by kernel_rfl) (by kernel_rfl) (by kernel_rfl) (by kernel_rfl) (by kernel_rfl) (by kernel_rfl) (by kernel_rfl) (by kernel_rfl) (by kernel_rfl) (fun _ => rfl) (by kernel_rfl)) ?_
 refine yqt ⟨L34, [B12, B3], H⟩ ?_
 refine yql ⟨L34, [B16, B3], H⟩ ?_
 exact yqe
 refine yql ⟨L22 ++ L24 ++ [E19], [B12, B3], H⟩ ?_
 refine yql ⟨L43, [B12, B3], H⟩ ?_
 refine q_last ⟨L35, [B12, B3], H⟩ (st_app (X := X) (⟨L42, [B12, B3], H⟩ : St) 8 h13 26 26 3 1 0 [(.top, .int .i64 0)] (.own 0) (eI .i64) 0 (some 31) (by kernel_rfl) (by kernel_rfl) (by kernel_rfl) (by kernel_rfl) (by kernel_rfl) (by kernel_rfl) (by kernel_rfl) (by kernel_rfl) (by kernel_rfl) (fun _ => rfl) (by kernel_rfl)) ?_
 refine q_last ⟨L36, [B12, B3], H⟩ (yc (some 33) true false (⟨L35, [B12, B3], H⟩ : St) (ok_ref17_now H c15)) ?_
 refine yql ⟨L40, [B12, B3], H⟩ ?_
 refine q_last ⟨L32, [B12, B3], H⟩ (st_appZ (X := X) (⟨L29, [B12, B3], H⟩ : St) 8 h17 26 26 3 1 0 [(.top, .int .i64 0)] (.own 1) (eI .i64) 0 (some 35) (by kernel_rfl) (by kernel_rfl) (by kernel_rfl) (by kernel_rfl) (by kernel_rfl) (by kernel_rfl) (by kernel_rfl) (by kernel_rfl) (by kernel_rfl) (fun _ => rfl) (by kernel_rfl)) ?_
 refine yqt ⟨L34, [B12, B3], H⟩ ?_
 refine yql ⟨L34, [B16, B3], H⟩ ?_
 exact yqe
 refine yql ⟨L22 ++ [E17, E19], [B12, B3], H⟩ ?_
 refine q_alt ⟨L37 ++ [E17, E19], [B12, B3], H⟩ (by kernel_rfl) ?_ ?_
 refine yql ⟨L43, [B12, B3], H⟩ ?_
 refine q_last ⟨L35, [B12, B3], H⟩ (st_app (X := X) (⟨L42, [B12, B3], H⟩ : St) 8 h13 26 26 3 1 0 [(.top, .int .i64 0)] (.own 0) (eI .i64) 0 (some 31) (by kernel_rfl) (by kernel_rfl) (by kernel_rfl) (by kernel_rfl) (by kernel_rfl) (by kernel_rfl) (by kernel_rfl) (by kernel_rfl) (by kernel_rfl) (fun _ => rfl) (by kernel_rfl)) ?_
 refine q_last ⟨L36, [B12, B3], H⟩ (yc (some 33) true false (⟨L35, [B12, B3], H⟩ : St) (ok_ref17_now H c15)) ?_
 refine yql ⟨L40, [B12, B3], H⟩ ?_
 refine q_last ⟨L32, [B12, B3], H⟩ (st_appZ (X := X) (⟨L29, [B12, B3], H⟩ : St) 8 h17 26 26 3 1 0 [(.top, .int .i64 0)] (.own 1) (eI .i64) 0 (some 35) (by kernel_rfl) (by kernel_rfl) (by kernel_rfl) (by kernel_rfl) (by kernel_rfl) (by kernel_rfl) (by kernel_rfl) (by kernel_rfl) (by kernel_rfl) (fun _ => rfl) (by kernel_rfl)) ?_
 refine yqt ⟨L34, [B12, B3], H⟩ ?_
 refine yql ⟨L34, [B16, B3], H⟩ ?_
 exact yqe
 refine yql ⟨L22 ++ L24 ++ [E19], [B12, B3], H⟩ ?_
 refine yql ⟨L43, [B12, B3], H⟩ ?_
 refine q_last ⟨L35, [B12, B3], H⟩ (st_app (X := X) (⟨L42, [B12, B3], H⟩ : St) 8 h13 26 26 3 1 0 [(.top, .int .i64 0)] (.own 0) (eI .i64) 0 (some 31) (by kernel_rfl) (by kernel_rfl) (by kernel_rfl) (by kernel_rfl) (by kernel_rfl) (by kernel_rfl) (by kernel_rfl) (by kernel_rfl) (by kernel_rfl) (fun _ => rfl) (by kernel_rfl)) ?_
 refine q_last ⟨L36, [B12, B3], H⟩ (yc (some 33) true false (⟨L35, [B12, B3], H⟩ : St) (ok_ref17_now H c15)) ?_
 refine yql ⟨L40, [B12, B3], H⟩ ?_
 refine q_last ⟨L32, [B12, B3], H⟩ (st_appZ (X := X) (⟨L29, [B12, B3], H⟩ : St) 8 h17 26 26 3 1 0 [(.top, .int .i64 0)] (.own 1) (eI .i64) 0 (some 35) (by kernel_rfl) (by kernel_rfl) (by kernel_rfl) (by kernel_rfl) (by kernel_rfl) (by kernel_rfl) (by kernel_rfl) (by kernel_rfl) (by kernel_rfl) (fun _ => rfl) (by kernel_rfl)) ?_
 refine yqt ⟨L34, [B12, B3], H⟩ ?_
 refine yql ⟨L34, [B16, B3], H⟩ ?_
 exact yqe
 kernel_rfl
 refine ysg ⟨[E9], [(4, [((.own 0), .sl 5 (List.map e_ref02_Instr v10)), ((.own 0), .sl 1 (List.map (eI .i64) v16)), ((.own 0), .sl 4 (List.map e_api_Fixup j3.Fixups_)), ((.own 0), .sl 1 (List.map (eI .i64) j3.Pads_)), ((.own 0), .sl 1 (List.map (eI .i64) j3.Active_)), (.top, .int .i64 j3.Depth_), (.top, .int .i64 j3.Most_), (.top, .int .i64 j3.Err_)])], H⟩ ?_
 refine w_ret ?_
 obtain e0 := some1_inv hF
 subst e0
 exact yp (.agg [((.own 0), .sl 5 (List.map e_ref02_Instr v10)), ((.own 0), .sl 1 (List.map (eI .i64) v16)), ((.own 0), .sl 4 (List.map e_api_Fixup j3.Fixups_)), ((.own 0), .sl 1 (List.map (eI .i64) j3.Pads_)), ((.own 0), .sl 1 (List.map (eI .i64) j3.Active_)), (.top, .int .i64 j3.Depth_), (.top, .int .i64 j3.Most_), (.top, .int .i64 j3.Err_)])
 rcases if_inv hF with ⟨h18, hF⟩ | ⟨h18, hF⟩
 refine yT h18 ⟨L39, [B1, B2, B3], H⟩ ?_
 refine w_seq ?_
 obtain ⟨r19, c20, hF⟩ := bind1_inv hF
 let B20 : EB := (2, (m1_ref17_Code r19))
 let E21 : EN := (12, .agg (m1_ref17_Code r19))
 refine w_regO ⟨L23, [B20, B2, B3], H⟩ ?_ ?_
 refine yr 2 ⟨L46, [B1, B2, B3], H⟩ ?_
 refine o_one ⟨L46 ++ [E21], [B1, B2, B3], H⟩ (yc (some 12) true false (⟨L46, [B1, B2, B3], H⟩ : St) (ok_ref17_Fail H c20)) ?_
 refine yr 1 ⟨L46 ++ [E21], [B20, B2, B3], H⟩ ?_
 exact ye
 refine yg ⟨L23, [B20, (3, ([(.top, .int .i64 1)] ++ List.replicate 4 (.top, .int .i64 0))), B3], H⟩ ?_
 exact ⟨(r19, (T_ref02_Instr.mk 1 0 0 0 0)), hF, (by kernel_rfl)⟩
 refine yF h18 ⟨L23, [B1, B2, B3], H⟩ ?_
 refine w_skip ?_
 exact ⟨(p0, p1), hF, (by kernel_rfl)⟩
noncomputable def emit_Code_Number (H : Heap) (p0 : Ptr) (p1 : Int) (p2 : Int) : Option (Heap) :=
  bind1 (word_Fits (IntKind.wrap .i64 p2) 16) fun r1 =>
  if r1 = true then (bind2 (emit_Code_Put H p0 (T_instr_Instr.mk 2 p1 0 0 (IntKind.wrap .i64 p2))) fun H6 r4 =>
  some H6)
  else (bind2 (emit_Code_Put H p0 (T_instr_Instr.mk 3 p1 0 0 (IntKind.wrap .i64 (Int.fdiv (IntKind.wrap .u32 p2) (2 ^ 16))))) fun H9 r7 =>
  bind2 (emit_Code_Put H9 p0 (T_instr_Instr.mk 4 p1 p1 0 (IntKind.wrap .i64 (bitsOf .and .u32 (IntKind.wrap .u32 p2) 65535)))) fun H12 r10 =>
  some H12)
theorem ok_emit_Code_Number (H : Heap) {p0 : Ptr} {p1 : Int} {p2 : Int} {Hr : Heap} (hF : emit_Code_Number H p0 p1 p2 = some Hr) : evS X 37 [.one .top (Ptr.av p0), .one .top (.int .i64 p1), .one .top (.int .i32 p2)] H = some (.tup [], Hr) := by
 let E1 : EN := (6, .one .top (.int .i32 p2))
 let E2 : EN := (7, vi (IntKind.wrap .i64 p2))
 let L3 : Ptr → List EN := fun z0 => [(0, vp z0), (1, vi p1), (2, .one .top (.int .i32 p2))]
 let L4 : Ptr → List EN := fun z0 => (L3 z0) ++ [(9, vp z0), (10, vi p1), (11, .one .top (.int .i32 p2)), (12, vi (IntKind.wrap .i64 p2)), (13, .agg [(.top, .int .i64 2), (.top, .int .i64 p1), (.top, .int .i64 0), (.top, .int .i64 0), (.top, .int .i64 (IntKind.wrap .i64 p2))])]
 let L5 : Ptr → List EN := fun z0 => (L3 z0) ++ [(15, vp z0), (16, vi p1), (17, .one .top (.int .i32 p2)), (18, vu (IntKind.wrap .u32 p2)), (19, vu (Int.fdiv (IntKind.wrap .u32 p2) (2 ^ 16))), (20, vi (IntKind.wrap .i64 (Int.fdiv (IntKind.wrap .u32 p2) (2 ^ 16)))), (21, .agg [(.top, .int .i64 3), (.top, .int .i64 p1), (.top, .int .i64 0), (.top, .int .i64 0), (.top, .int .i64 (IntKind.wrap .i64 (Int.fdiv (IntKind.wrap .u32 p2) (2 ^ 16))))])]
 let L6 : Ptr → List EN := fun z0 => (L3 z0) ++ [(23, vp z0), (24, vi p1), (25, vi p1), (26, .one .top (.int .i32 p2)), (27, vu (IntKind.wrap .u32 p2)), (28, vu (bitsOf .and .u32 (IntKind.wrap .u32 p2) 65535)), (29, vi (IntKind.wrap .i64 (bitsOf .and .u32 (IntKind.wrap .u32 p2) 65535))), (30, .agg [(.top, .int .i64 4), (.top, .int .i64 p1), (.top, .int .i64 p1), (.top, .int .i64 0), (.top, .int .i64 (IntKind.wrap .i64 (bitsOf .and .u32 (IntKind.wrap .u32 p2) 65535)))])]
 refine yf Try.func37 false ⟨(L3 p0), [], H⟩ ?_
 unfold emit_Code_Number at hF
 refine w_seq ?_
 refine w_seq ?_
 obtain ⟨r1, c2, hF⟩ := bind1_inv hF
 refine w_regO ⟨(L3 p0) ++ [(8, vb r1)], [], H⟩ ?_ ?_
 refine yr 2 ⟨(L3 p0) ++ [E1, E2], [], H⟩ ?_ (h := (by generalize p0 = qp0; cases qp0 <;> kernel_rfl))
 refine o_one ⟨(L3 p0) ++ [E1, E2, (8, vb r1)], [], H⟩ (yc (some 8) true false (⟨(L3 p0) ++ [E1, E2], [], H⟩ : St) (ok_word_Fits H c2) (hr := (by generalize p0 = qp0; cases qp0 <;> kernel_rfl)) (hs := (by generalize p0 = qp0; cases qp0 <;> kernel_rfl))) ?_
 exact ye
 rcases if_inv hF with ⟨h3, hF⟩ | ⟨h3, hF⟩
 refine yT h3 ⟨(L3 p0), [], H⟩ ?_
 refine w_seq ?_
 obtain ⟨H6, r4, c5, hF⟩ := bind2_inv hF
 refine w_regO ⟨[], [], H6⟩ ?_ ?_
 refine yr 5 ⟨(L4 p0), [], H⟩ ?_ (h := (by generalize p0 = qp0; cases qp0 <;> kernel_rfl))
 refine o_one ⟨(L4 p0) ++ [(14, vi r4)], [], H6⟩ (yc (some 14) false false (⟨(L4 p0), [], H⟩ : St) (ok_emit_Code_Put H c5) (hr := (by generalize p0 = qp0; cases qp0 <;> kernel_rfl)) (hs := (by generalize p0 = qp0; cases qp0 <;> kernel_rfl))) ?_
 exact ye
 refine w_ret ?_
 obtain e0 := some1_inv hF
 subst e0
 exact yi (vN)
 refine yF h3 ⟨(L3 p0), [], H⟩ ?_
 refine w_skip ?_
 refine w_seq ?_
 obtain ⟨H9, r7, c8, hF⟩ := bind2_inv hF
 refine w_regO ⟨(L3 p0), [], H9⟩ ?_ ?_
 refine yr 7 ⟨(L5 p0), [], H⟩ ?_ (h := (by generalize p0 = qp0; cases qp0 <;> kernel_rfl))
 refine o_one ⟨(L5 p0) ++ [(22, vi r7)], [], H9⟩ (yc (some 22) false false (⟨(L5 p0), [], H⟩ : St) (ok_emit_Code_Put H c8) (hr := (by generalize p0 = qp0; cases qp0 <;> kernel_rfl)) (hs := (by generalize p0 = qp0; cases qp0 <;> kernel_rfl))) ?_
 exact ye
 obtain ⟨H12, r10, c11, hF⟩ := bind2_inv hF
 refine w_regO ⟨[], [], H12⟩ ?_ ?_
 refine yr 8 ⟨(L6 p0), [], H9⟩ ?_ (h := (by generalize p0 = qp0; cases qp0 <;> kernel_rfl))
 refine o_one ⟨(L6 p0) ++ [(31, vi r10)], [], H12⟩ (yc (some 31) false false (⟨(L6 p0), [], H9⟩ : St) (ok_emit_Code_Put H9 c11) (hr := (by generalize p0 = qp0; cases qp0 <;> kernel_rfl)) (hs := (by generalize p0 = qp0; cases qp0 <;> kernel_rfl))) ?_
 exact ye
 obtain e0 := some1_inv hF
 subst e0
 exact yi (vN)
noncomputable def ref17_Number  (p0 : T_ref17_Code) (p1 : Int) (p2 : Int) : Option (T_ref17_Code) :=
  if ((decide (p2 ≥ (-32768))) && (decide (p2 ≤ 32767))) = true then (bind1 (ref17_Put p0 (T_ref02_Instr.mk 2 p1 0 0 (IntKind.wrap .i64 p2))) fun r3 =>
  some r3)
  else (bind1 (ref17_Put p0 (T_ref02_Instr.mk 3 p1 0 0 (IntKind.wrap .i64 (Int.tdiv (IntKind.wrap .i64 (IntKind.wrap .u32 p2)) 65536)))) fun r5 =>
  bind1 (ref17_Put r5 (T_ref02_Instr.mk 4 p1 p1 0 (Int.tmod (IntKind.wrap .i64 (IntKind.wrap .u32 p2)) 65536))) fun r7 =>
  some r7)
noncomputable def emit_Code_Back (H : Heap) (p0 : Ptr) (p1 : Int) (p2 : Int) (p3 : Int) : Option (Heap) :=
  bind2 (emit_Code_Put H p0 (T_instr_Instr.mk p1 p2 0 0 0)) fun H3 r1 =>
  bind1 (emit_Code_set H3 p0 r1 (IntKind.wrap .i64 ((IntKind.wrap .i64 (p3 - r1)) - 1))) fun H5 =>
  some H5
theorem ok_emit_Code_Back (H : Heap) {p0 : Ptr} {p1 : Int} {p2 : Int} {p3 : Int} {Hr : Heap} (hF : emit_Code_Back H p0 p1 p2 p3 = some Hr) : evS X 39 [.one .top (Ptr.av p0), .one .top (.int .i64 p1), .one .top (.int .i64 p2), .one .top (.int .i64 p3)] H = some (.tup [], Hr) := by
 let L1 : Ptr → List EN := fun z0 => [(0, vp z0), (1, vi p1), (2, vi p2), (3, vi p3)]
 let L2 : Ptr → List EN := fun z0 => [(9, vp z0), (10, vi p1), (11, vi p2), (12, .agg [(.top, .int .i64 p1), (.top, .int .i64 p2), (.top, .int .i64 0), (.top, .int .i64 0), (.top, .int .i64 0)])]
 refine yf Try.func39 false ⟨(L1 p0), [], H⟩ ?_
 unfold emit_Code_Back at hF
 refine w_seq ?_
 obtain ⟨H3, r1, c2, hF⟩ := bind2_inv hF
 let L3 : Ptr → List EN := fun z0 => [(0, vp z0), (3, vi p3), (8, vi r1), (14, vp z0), (15, vi r1), (16, vi p3), (17, vi r1), (18, vi (IntKind.wrap .i64 (p3 - r1))), (19, vi (IntKind.wrap .i64 ((IntKind.wrap .i64 (p3 - r1)) - 1)))]
 refine w_regO ⟨[(0, vp p0), (3, vi p3), (8, vi r1)], [], H3⟩ ?_ ?_
 refine yr 4 ⟨(L1 p0) ++ (L2 p0), [], H⟩ ?_ (h := (by generalize p0 = qp0; cases qp0 <;> kernel_rfl))
 refine o_one ⟨(L1 p0) ++ (L2 p0) ++ [(13, vi r1)], [], H3⟩ (yc (some 13) false false (⟨(L1 p0) ++ (L2 p0), [], H⟩ : St) (ok_emit_Code_Put H c2) (hr := (by generalize p0 = qp0; cases qp0 <;> kernel_rfl)) (hs := (by generalize p0 = qp0; cases qp0 <;> kernel_rfl))) ?_
 refine yr 1 ⟨(L1 p0) ++ [(8, vi r1)] ++ (L2 p0) ++ [(13, vi r1)], [], H3⟩ ?_ (h := (by generalize p0 = qp0; cases qp0 <;> kernel_rfl))
 exact ye
 obtain ⟨H5, c4, hF⟩ := bind1_inv hF
 refine w_regO ⟨[], [], H5⟩ ?_ ?_
 refine yr 6 ⟨(L3 p0), [], H3⟩ ?_ (h := (by generalize p0 = qp0; cases qp0 <;> kernel_rfl))
 refine o_one ⟨(L3 p0) ++ [(20, vN)], [], H5⟩ (yc (some 20) false false (⟨(L3 p0), [], H3⟩ : St) (ok_emit_Code_set H3 c4) (hr := (by generalize p0 = qp0; cases qp0 <;> kernel_rfl)) (hs := (by generalize p0 = qp0; cases qp0 <;> kernel_rfl))) ?_
 exact ye
 obtain e0 := some1_inv hF
 subst e0
 exact yi (vN)
noncomputable def ref17_Patch  (p0 : T_ref17_Code) (p1 : Int) (p2 : Int) : Option (T_ref17_Code) :=
  if ((decide (p1 < 0)) || (decide (p1 ≥ (p0.L_.length : Int)))) = true then (bind1 (ref17_Fail p0 52) fun r3 =>
  some r3)
  else (bind1 (gi p0.L_ p1) fun x5 =>
  bind1 (ref02_Check (T_ref02_Instr.mk x5.Op_ x5.A_ x5.B_ x5.C_ p2)) fun r7 =>
  if (r7 != 0) = true then (bind1 (ref17_Fail p0 52) fun r10 =>
  some r10)
  else (bind1 (app 40 ([] : List T_ref02_Instr) p0.L_) fun v12 =>
  bind1 (gi v12 p1) fun x14 =>
  bind1 (si v12 p1 (T_ref02_Instr.mk x5.Op_ x5.A_ x5.B_ x5.C_ p2)) fun v16 =>
  some (T_ref17_Code.mk v16 p0.G_ p0.Fixups_ p0.Pads_ p0.Active_ p0.Depth_ p0.Most_ p0.Err_)))
theorem ok_ref17_Patch (H : Heap) {p0 : T_ref17_Code} {p1 : Int} {p2 : Int} {ra : T_ref17_Code} (hF : ref17_Patch p0 p1 p2 = some ra) : evS X 27 [.agg (m1_ref17_Code p0), .one .top (.int .i64 p1), .one .top (.int .i64 p2)] H = some (.agg (m1_ref17_Code ra), H) := by
 let E1 : EN := (1, vi p1)
 let B2 : EB := (3, (m1_ref17_Code p0))
 let B3 : EB := (6, [((.own 1), .sl 5 (List.map e_ref02_Instr ([] : List T_ref02_Instr))), ((.own 1), .sl 1 (List.map (eI .i64) ([] : List Int))), ((.own 1), .sl 4 (List.map e_api_Fixup ([] : List T_api_Fixup))), ((.own 1), .sl 1 (List.map (eI .i64) ([] : List Int))), ((.own 1), .sl 1 (List.map (eI .i64) ([] : List Int))), (.top, .int .i64 0), (.top, .int .i64 0), (.top, .int .i64 0)])
 let E4 : EN := (15, vi (p0.L_.length : Int))
 let E5 : EN := (6, vl 6 0)
 let E6 : EN := (18, .agg (m1_ref17_Code p0))
 let E11 : EN := (30, .agg (m1_ref17_Code p0))
 let E13 : EN := (33, vl 3 0)
 let E14 : EN := (34, .one (.own 0) (.sl 5 (List.map e_ref02_Instr p0.L_)))
 let E15 : EN := (32, .one .top .junk)
 let E17 : EN := (39, .one .top (.el (.tmp 8) (Int.toNat p1) 0))
 let L18 : List EN := [(3, vl 3 0), E5]
 let L19 : List EN := [E1] ++ L18 ++ [(7, vl 7 0)]
 let L20 : List EN := [E1, (2, vi p2)] ++ L18
 let L21 : List EN := L20 ++ [(9, vi p1)]
 let L24 : List EN := [(20, vl 3 0), (21, .one (.own 0) (.sl 5 (List.map e_ref02_Instr p0.L_))), (22, vi p1)]
 let L25 : List EN := L21 ++ [(10, vF), (11, vF), (12, vi p1), (13, vl 3 0), (14, .one (.own 0) (.sl 5 (List.map e_ref02_Instr p0.L_)))]
 refine yf Try.func27 true ⟨[(0, .agg (m1_ref17_Code p0)), E1, (2, vi p2)], [], H⟩ ?_
 unfold ref17_Patch at hF
 refine ysg ⟨L20, [B2, B3], H⟩ ?_
 refine w_seq ?_
 refine yso ⟨L20 ++ [(17, vb ((decide (p1 < 0)) || (decide (p1 ≥ (p0.L_.length : Int)))))], [B2, B3], H⟩ ?_ ?_
 refine yr 3 ⟨L21 ++ [(10, vb (decide (p1 < 0))), (11, vb (decide (p1 < 0)))], [B2, B3], H⟩ ?_
 rcases bool_cases (decide (p1 < 0)) with h1 | h1
 refine o_eq (congrArg (fun q => (⟨L21 ++ [(10, vb q), (11, vb q)], [B2, B3], H⟩ : St)) h1) ?_
 refine yr 6 ⟨L21 ++ [(10, vT), (11, vT), (12, vN), (13, vN), (14, vN), (15, vN), (16, vN), (17, vT)], [B2, B3], H⟩ ?_
 refine o_eq2 (congrArg (fun q0 => (⟨L20 ++ [(17, vb q0)], [B2, B3], H⟩ : St)) (show true = ((decide (p1 < 0)) || (decide (p1 ≥ (p0.L_.length : Int)))) by simp [h1])) ?_
 exact ye
 refine o_eq (congrArg (fun q => (⟨L21 ++ [(10, vb q), (11, vb q)], [B2, B3], H⟩ : St)) h1) ?_
 refine yr 3 ⟨L25, [B2, B3], H⟩ ?_
 refine o_one ⟨L25 ++ [E4], [B2, B3], H⟩ (yl (⟨L25, [B2, B3], H⟩ : St) p0.L_ e_ref02_Instr (some 15)) ?_
 refine yr 2 ⟨L25 ++ [E4, (16, vb (decide (p1 ≥ (p0.L_.length : Int)))), (17, vb (decide (p1 ≥ (p0.L_.length : Int))))], [B2, B3], H⟩ ?_
 refine o_eq2 (congrArg (fun q0 => (⟨L20 ++ [(17, vb q0)], [B2, B3], H⟩ : St)) (show (decide (p1 ≥ (p0.L_.length : Int))) = ((decide (p1 < 0)) || (decide (p1 ≥ (p0.L_.length : Int)))) by simp [h1])) ?_
 exact ye
 rcases if_inv hF with ⟨h2, hF⟩ | ⟨h2, hF⟩
 refine yT h2 ⟨L18, [B2, B3], H⟩ ?_
 refine w_seq ?_
 obtain ⟨r3, c4, hF⟩ := bind1_inv hF
 let E7 : EN := (19, .agg (m1_ref17_Code r3))
 refine w_regO ⟨[E5], [(6, (m1_ref17_Code r3))], H⟩ ?_ ?_
 refine yr 1 ⟨L18 ++ [E6], [B2, B3], H⟩ ?_
 refine o_one ⟨L18 ++ [E6, E7], [B2, B3], H⟩ (yc (some 19) true false (⟨L18 ++ [E6], [B2, B3], H⟩ : St) (ok_ref17_Fail H c4)) ?_
 refine yr 1 ⟨L18 ++ [E6, E7], [B2, (6, (m1_ref17_Code r3))], H⟩ ?_
 exact ye
 refine w_ret ?_
 obtain e0 := some1_inv hF
 subst e0
 exact yp (.agg (m1_ref17_Code r3))
 refine yF h2 ⟨L20, [B2, B3], H⟩ ?_
 refine w_skip ?_
 refine w_seq ?_
 obtain ⟨x5, h6, hF⟩ := bind1_inv hF
 let E8 : EN := (23, .one .top (.rd (.own 0) (.own 0) [.int .i64 x5.Op_, .int .i64 x5.A_, .int .i64 x5.B_, .int .i64 x5.C_, .int .i64 x5.Imm_] 0))
 let B9 : EB := (7, [(.top, .int .i64 x5.Op_), (.top, .int .i64 x5.A_), (.top, .int .i64 x5.B_), (.top, .int .i64 x5.C_), (.top, .int .i64 p2)])
 let E10 : EN := (27, .agg [(.top, .int .i64 x5.Op_), (.top, .int .i64 x5.A_), (.top, .int .i64 x5.B_), (.top, .int .i64 x5.C_), (.top, .int .i64 p2)])
 refine w_regO ⟨[E1, (2, vi p2)] ++ L18 ++ [(7, vl 7 0)], [B2, B3, (7, (m0_ref02_Instr x5))], H⟩ ?_ ?_
 refine yr 3 ⟨L20 ++ L24, [B2, B3], H⟩ ?_
 refine o_one ⟨L20 ++ L24 ++ [E8], [B2, B3], H⟩ (st_ix (X := X) (⟨L20 ++ L24, [B2, B3], H⟩ : St) 25 69 5 h6 e_ref02_Instr (.own 0) (some 23) (by kernel_rfl) (by kernel_rfl) (by kernel_rfl) (by kernel_rfl)) ?_
 refine yr 3 ⟨[E1, (2, vi p2)] ++ L18 ++ [(7, vl 7 0)] ++ L24 ++ [E8, (24, .agg (m0_ref02_Instr x5))], [B2, B3, (7, (m0_ref02_Instr x5))], H⟩ ?_
 exact ye
 refine ysg ⟨L19, [B2, B3, B9], H⟩ ?_
 refine w_seq ?_
 refine w_seq ?_
 obtain ⟨r7, c8, hF⟩ := bind1_inv hF
 refine w_regO ⟨L19 ++ [(29, vb (r7 != 0))], [B2, B3, B9], H⟩ ?_ ?_
 refine yr 1 ⟨L19 ++ [E10], [B2, B3, B9], H⟩ ?_
 refine o_one ⟨L19 ++ [E10, (28, vi r7)], [B2, B3, B9], H⟩ (yc (some 28) true false (⟨L19 ++ [E10], [B2, B3, B9], H⟩ : St) (ok_ref02_Check H c8)) ?_
 refine yr 1 ⟨L19 ++ [E10, (28, vi r7), (29, vb (r7 != 0))], [B2, B3, B9], H⟩ ?_
 exact ye
 rcases if_inv hF with ⟨h9, hF⟩ | ⟨h9, hF⟩
 refine yT h9 ⟨L18, [B2, B3], H⟩ ?_
 refine w_seq ?_
 obtain ⟨r10, c11, hF⟩ := bind1_inv hF
 let E12 : EN := (31, .agg (m1_ref17_Code r10))
 refine w_regO ⟨[E5], [(6, (m1_ref17_Code r10))], H⟩ ?_ ?_
 refine yr 1 ⟨L18 ++ [E11], [B2, B3], H⟩ ?_
 refine o_one ⟨L18 ++ [E11, E12], [B2, B3], H⟩ (yc (some 31) true false (⟨L18 ++ [E11], [B2, B3], H⟩ : St) (ok_ref17_Fail H c11)) ?_
 refine yr 1 ⟨L18 ++ [E11, E12], [B2, (6, (m1_ref17_Code r10))], H⟩ ?_
 exact ye
 refine w_ret ?_
 obtain e0 := some1_inv hF
 subst e0
 exact yp (.agg (m1_ref17_Code r10))
 refine yF h9 ⟨L19, [B2, B3, B9], H⟩ ?_
 refine w_skip ?_
 refine w_seq ?_
 obtain ⟨v12, h13, hF⟩ := bind1_inv hF
 let L22 : List EN := L19 ++ [(8, .one (.own 1) (.sl 5 (List.map e_ref02_Instr v12)))]
 let L23 : List EN := [(36, .one .top (.at_ (.tmp 8) 0 ((List.map e_ref02_Instr v12).length))), (37, vi p1), (38, .agg [(.top, .int .i64 x5.Op_), (.top, .int .i64 x5.A_), (.top, .int .i64 x5.B_), (.top, .int .i64 x5.C_), (.top, .int .i64 p2)])]
 refine w_regO ⟨L22, [B2, B3, B9], H⟩ ?_ ?_
 refine yr 3 ⟨L19 ++ [(32, .one (.own 1) (.sl 5 (List.map e_ref02_Instr ([] : List T_ref02_Instr)))), E13, E14], [B2, B3, B9], H⟩ ?_
 refine o_one ⟨L19 ++ [E15, E13, E14, (35, .one (.own 1) (.sl 5 (List.map e_ref02_Instr v12)))], [B2, B3, B9], H⟩ (st_app (X := X) (⟨L19 ++ [E15, E13, E14], [B2, B3, B9], H⟩ : St) 40 h13 25 25 69 5 0 (List.replicate 5 (.top, .int .i64 0)) (.own 0) e_ref02_Instr 0 (some 35) (by kernel_rfl) (by kernel_rfl) (by kernel_rfl) (by kernel_rfl) (by kernel_rfl) (by kernel_rfl) (by kernel_rfl) (by kernel_rfl) (by kernel_rfl) (fun _ => rfl) (by kernel_rfl)) ?_
 refine yr 1 ⟨L22 ++ [E15, E13, E14, (35, .one .top .junk)], [B2, B3, B9], H⟩ ?_
 exact ye
 refine w_seq ?_
 obtain ⟨x14, h15, hF⟩ := bind1_inv hF
 obtain ⟨v16, h17, hF⟩ := bind1_inv hF
 let E16 : EN := (8, .one (.own 1) (.sl 5 (List.map e_ref02_Instr v16)))
 refine w_regO ⟨L18 ++ [E16], [B2, B3], H⟩ ?_ ?_
 refine yr 3 ⟨L22 ++ L23, [B2, B3, B9], H⟩ ?_
 refine o_one ⟨L22 ++ L23 ++ [E17], [B2, B3, B9], H⟩ (st_ixA (X := X) (⟨L22 ++ L23, [B2, B3, B9], H⟩ : St) 25 69 5 h15 e_ref02_Instr (.tmp 8) 0 (List.map e_ref02_Instr v12).length 0 (some 39) (by kernel_rfl) (by kernel_rfl) (by kernel_rfl) (by kernel_rfl) rfl (List.length_map _) (by kernel_rfl)) ?_
 refine o_one ⟨L19 ++ [E16] ++ L23 ++ [E17], [B2, B3, B9], H⟩ (st_stE (X := X) (⟨L22 ++ L23 ++ [E17], [B2, B3, B9], H⟩ : St) (⟨L19 ++ [E16] ++ L23 ++ [E17], [B2, B3, B9], H⟩ : St) ⟨true, []⟩ 69 (.tmp 8) (Int.toNat p1) 0 5 0 (List.map e_ref02_Instr v12) [.int .i64 x14.Op_, .int .i64 x14.A_, .int .i64 x14.B_, .int .i64 x14.C_, .int .i64 x14.Imm_] (e_ref02_Instr (T_ref02_Instr.mk x5.Op_ x5.A_ x5.B_ x5.C_ p2)) (List.map e_ref02_Instr v16) 5 (.agg [(.top, .int .i64 x5.Op_), (.top, .int .i64 x5.A_), (.top, .int .i64 x5.B_), (.top, .int .i64 x5.C_), (.top, .int .i64 p2)]) (by kernel_rfl) (by kernel_rfl) (by kernel_rfl) (by kernel_rfl) (by kernel_rfl) (by kernel_rfl) (el_at h15) (by kernel_rfl) (by kernel_rfl) (el_put h17) (by kernel_rfl) (by kernel_rfl)) ?_
 exact ye
 refine ysg ⟨L18, [(3, [((.own 1), .sl 5 (List.map e_ref02_Instr v16)), ((.own 0), .sl 1 (List.map (eI .i64) p0.G_)), ((.own 0), .sl 4 (List.map e_api_Fixup p0.Fixups_)), ((.own 0), .sl 1 (List.map (eI .i64) p0.Pads_)), ((.own 0), .sl 1 (List.map (eI .i64) p0.Active_)), (.top, .int .i64 p0.Depth_), (.top, .int .i64 p0.Most_), (.top, .int .i64 p0.Err_)]), B3], H⟩ ?_
 refine ysg ⟨[E5], [(6, [((.own 1), .sl 5 (List.map e_ref02_Instr v16)), ((.own 0), .sl 1 (List.map (eI .i64) p0.G_)), ((.own 0), .sl 4 (List.map e_api_Fixup p0.Fixups_)), ((.own 0), .sl 1 (List.map (eI .i64) p0.Pads_)), ((.own 0), .sl 1 (List.map (eI .i64) p0.Active_)), (.top, .int .i64 p0.Depth_), (.top, .int .i64 p0.Most_), (.top, .int .i64 p0.Err_)])], H⟩ ?_
 refine w_ret ?_
 obtain e0 := some1_inv hF
 subst e0
 exact yp (.agg [((.own 1), .sl 5 (List.map e_ref02_Instr v16)), ((.own 0), .sl 1 (List.map (eI .i64) p0.G_)), ((.own 0), .sl 4 (List.map e_api_Fixup p0.Fixups_)), ((.own 0), .sl 1 (List.map (eI .i64) p0.Pads_)), ((.own 0), .sl 1 (List.map (eI .i64) p0.Active_)), (.top, .int .i64 p0.Depth_), (.top, .int .i64 p0.Most_), (.top, .int .i64 p0.Err_)])
noncomputable def emit_Code_Fix (H : Heap) (p0 : Ptr) (p1 : Int) (p2 : Int) (p3 : Int) (p4 : Int) : Option (Heap) :=
  (p0).bnd fun i1 o2 =>
  bind1 (get_emit_Code H i1 o2) fun x4 =>
  bind1 (app 32 x4.fixups_ ([(T_api_Fixup.mk (x4.words_.length : Int) p1 p2 p3)] : List T_api_Fixup)) fun v6 =>
  bnd (set_emit_Code H i1 o2 (T_emit_Code.mk x4.words_ v6 x4.marks_ x4.pads_ x4.active_ x4.depth_ x4.most_ x4.err_)) fun H8 =>
  if (p1 == 3) = true then (bind2 (emit_Code_Put H8 (Ptr.at i1 o2) (T_instr_Instr.mk 23 0 0 0 0)) fun H14 r12 =>
  some H14)
  else (bind2 (emit_Code_Put H8 (Ptr.at i1 o2) (T_instr_Instr.mk 3 p4 0 0 0)) fun H17 r15 =>
  bind2 (emit_Code_Put H17 (Ptr.at i1 o2) (T_instr_Instr.mk 4 p4 p4 0 0)) fun H20 r18 =>
  some H20)
theorem ok_emit_Code_Fix (H : Heap) {p0 : Ptr} {p1 : Int} {p2 : Int} {p3 : Int} {p4 : Int} {Hr : Heap} (hF : emit_Code_Fix H p0 p1 p2 p3 p4 = some Hr) : evS X 40 [.one .top (Ptr.av p0), .one .top (.int .i64 p1), .one .top (.int .i64 p2), .one .top (.int .i64 p3), .one .top (.int .i64 p4)] H = some (.tup [], Hr) := by
 let E9 : EN := (28, .agg ([(.top, .int .i64 23)] ++ List.replicate 4 (.top, .int .i64 0)))
 let L10 : List EN := [(1, vi p1), (2, vi p2), (3, vi p3), (4, vi p4)]
 let L12 : List EN := [(17, vi p1), (18, vi p2), (19, vi p3)]
 refine yf Try.func40 false ⟨[(0, vp p0)] ++ L10, [], H⟩ ?_
 unfold emit_Code_Fix at hF
 refine w_seq ?_
 obtain ⟨i1, o2, h3, hF⟩ := pbnd_inv hF
 let E3 : EN := (0, vo i1 o2)
 let E4 : EN := (15, vo i1 o2)
 let E6 : EN := (23, vo i1 o2)
 let E7 : EN := (24, vo i1 (o2 + 1))
 let E8 : EN := (27, vo i1 o2)
 let L11 : List EN := [E3] ++ L10 ++ [(10, vo i1 o2), (11, vo i1 o2), (12, vo i1 o2), (13, vo i1 (o2 + 1))]
 let L15 : List EN := [E3, (4, vi p4)]
 let L19 : List EN := L11 ++ [E4]
 let L21 : List EN := L15 ++ [(30, vo i1 o2), (31, vi p4), (32, .agg [(.top, .int .i64 3), (.top, .int .i64 p4), (.top, .int .i64 0), (.top, .int .i64 0), (.top, .int .i64 0)])]
 let L22 : List EN := L15 ++ [(34, vo i1 o2), (35, vi p4), (36, vi p4), (37, .agg [(.top, .int .i64 4), (.top, .int .i64 p4), (.top, .int .i64 p4), (.top, .int .i64 0), (.top, .int .i64 0)])]
 obtain ⟨x4, V5, hF⟩ := bind1_inv hF
 replace V5 := hgetT_inv V5
 let W1 : Heap := hset H i1 o2 [((.own 1), .sl 1 (List.map (eI .u32) x4.words_)), (.top, .junk), ((.own 1), .sl 2 (List.map e_api_Segment x4.marks_.list_)), ((.own 1), .sl 1 (List.map (eI .i64) x4.pads_)), ((.own 1), .sl 1 (List.map (eI .i64) x4.active_)), (.top, .int .i64 x4.depth_), (.top, .int .i64 x4.most_), (.top, .int .i64 x4.err_)]
 let E5 : EN := (16, vi (x4.words_.length : Int))
 let L13 : List EN := [E4, E5] ++ L12 ++ [(20, .agg [(.top, .int .i64 (x4.words_.length : Int)), (.top, .int .i64 p1), (.top, .int .i64 p2), (.top, .int .i64 p3)])]
 let L14 : List EN := L11 ++ [(14, .one .top .junk)] ++ L13 ++ [(21, .one .top .junk)]
 let L17 : List EN := L11 ++ [(14, .one (.own 1) (.sl 4 (List.map e_api_Fixup x4.fixups_)))]
 let L18 : List EN := L14 ++ [(22, .one .top .junk), E6, E7]
 let L20 : List EN := L13 ++ [(21, .one (.own 1) (.sl 4 (List.map e_api_Fixup ([(T_api_Fixup.mk (x4.words_.length : Int) p1 p2 p3)] : List T_api_Fixup))))]
 obtain ⟨v6, h7, hF⟩ := bind1_inv hF
 let W2 : Heap := hset H i1 o2 [((.own 1), .sl 1 (List.map (eI .u32) x4.words_)), ((.own 1), .sl 4 (List.map e_api_Fixup v6)), ((.own 1), .sl 2 (List.map e_api_Segment x4.marks_.list_)), ((.own 1), .sl 1 (List.map (eI .i64) x4.pads_)), ((.own 1), .sl 1 (List.map (eI .i64) x4.active_)), (.top, .int .i64 x4.depth_), (.top, .int .i64 x4.most_), (.top, .int .i64 x4.err_)]
 let L16 : List EN := L14 ++ [(22, .one (.own 1) (.sl 4 (List.map e_api_Fixup v6)))]
 obtain ⟨H8, h9, hF⟩ := bnd_inv hF
 let S23 : St := ⟨[E3, E8, E9], [], H8⟩
 have V10 : hget H8 i1 o2 8 = some (o_emit_Code (T_emit_Code.mk x4.words_ v6 x4.marks_ x4.pads_ x4.active_ x4.depth_ x4.most_ x4.err_)) := by rw [← h9]; exact hset_get V5 rfl
 let K24 : Sch := .last 11 (.last 12 (.take 13 (.take 14 (.last 15 .done))))
 refine w_regD (.take 0 (.take 1 (.take 2 (.take 3 (.take 5 (.take 7 (.take 8 (.take 9 (.alt 4 (.last 6 (.take 10 K24)) (.last 6 (.take 10 (.alt 4 K24 (.last 11 (.last 4 (.last 12 (.take 13 (.take 14 (.last 15 .done)))))))))))))))))) (by kernel_rfl) (⟨[E3, (1, vi p1), (4, vi p4)], [], H8⟩ : St) ?_ ?_
 refine d_take ⟨[(0, vp p0)] ++ L10 ++ [(10, vp p0)], [], H⟩ (by generalize p0 = qp0; cases qp0 <;> kernel_rfl) ?_
 refine d_take ⟨[(0, vp p0)] ++ L10 ++ [(10, vp p0), (11, vp p0)], [], H⟩ (by generalize p0 = qp0; cases qp0 <;> kernel_rfl) ?_
 refine d_eq (congrArg (fun q => (⟨[(0, vp q)] ++ L10 ++ [(10, vp q), (11, vp q)], [], H⟩ : St)) h3) ?_
 refine ydk 6 ⟨L19 ++ L12, [], H⟩ ?_
 refine q_in (⟨L18, [], W2⟩ : St) ?_ ?_
 refine q_alt ⟨L17 ++ [E4] ++ L12, [], W1⟩ (st_ldT (X := X) (h2 := W1) (⟨L19 ++ L12, [], H⟩ : St) 27 V5 1 1 false (.one (.own 1) (.sl 4 (List.map e_api_Fixup x4.fixups_))) (some 14) (by kernel_rfl) (by kernel_rfl) (by kernel_rfl) (by kernel_rfl) (by kernel_rfl) (hset_sub0 V5 (Nat.le_of_ble_eq_true rfl)) (by kernel_rfl)) ?_ ?_
 refine q_last ⟨L17 ++ [E4, E5] ++ L12, [], W1⟩ (yc (some 16) true false (⟨L17 ++ [E4] ++ L12, [], W1⟩ : St) (len_emit_Code_Here (H := W1) (hset_get V5 rfl))) ?_
 refine yqt ⟨L17 ++ L13, [], W1⟩ ?_
 refine yql ⟨L17 ++ L20, [], W1⟩ ?_
 refine q_last ⟨L16, [], W1⟩ (st_app (X := X) (⟨L14, [], W1⟩ : St) 32 h7 27 27 43 4 0 (List.replicate 4 (.top, .int .i64 0)) (.own 1) e_api_Fixup 0 (some 22) (by kernel_rfl) (by kernel_rfl) (by kernel_rfl) (by kernel_rfl) (by kernel_rfl) (by kernel_rfl) (by kernel_rfl) (by kernel_rfl) (by kernel_rfl) (fun _ => rfl) (by kernel_rfl)) ?_
 refine yqt ⟨L16 ++ [E6], [], W1⟩ ?_
 refine yqt ⟨L16 ++ [E6, E7], [], W1⟩ ?_
 refine q_last ⟨L18, [], W2⟩ (st_st (X := X) (lc := []) (h2 := W2) (⟨L18, [], W1⟩ : St) 27 (hset_get V5 rfl) 1 1 (.one (.own 1) (.sl 4 (List.map e_api_Fixup v6))) (by kernel_rfl) (by kernel_rfl) (by kernel_rfl) (by kernel_rfl) (by kernel_rfl) (by kernel_rfl) (hset_sub V5 rfl (Nat.le_of_ble_eq_true rfl)) (by kernel_rfl)) ?_
 exact yqe
 refine q_last ⟨L11 ++ [E4, E5] ++ L12, [], H⟩ (yc (some 16) true false (⟨L19 ++ L12, [], H⟩ : St) (len_emit_Code_Here (H := H) V5)) ?_
 refine yqt ⟨L11 ++ L13, [], H⟩ ?_
 refine q_alt ⟨L17 ++ L13, [], W1⟩ (st_ldT (X := X) (h2 := W1) (⟨L11 ++ L13, [], H⟩ : St) 27 V5 1 1 false (.one (.own 1) (.sl 4 (List.map e_api_Fixup x4.fixups_))) (some 14) (by kernel_rfl) (by kernel_rfl) (by kernel_rfl) (by kernel_rfl) (by kernel_rfl) (hset_sub0 V5 (Nat.le_of_ble_eq_true rfl)) (by kernel_rfl)) ?_ ?_
 refine yql ⟨L17 ++ L20, [], W1⟩ ?_
 refine q_last ⟨L16, [], W1⟩ (st_app (X := X) (⟨L14, [], W1⟩ : St) 32 h7 27 27 43 4 0 (List.replicate 4 (.top, .int .i64 0)) (.own 1) e_api_Fixup 0 (some 22) (by kernel_rfl) (by kernel_rfl) (by kernel_rfl) (by kernel_rfl) (by kernel_rfl) (by kernel_rfl) (by kernel_rfl) (by kernel_rfl) (by kernel_rfl) (fun _ => rfl) (by kernel_rfl)) ?_
 refine yqt ⟨L16 ++ [E6], [], W1⟩ ?_
 refine yqt ⟨L16 ++ [E6, E7], [], W1⟩ ?_
 refine q_last ⟨L18, [], W2⟩ (st_st (X := X) (lc := []) (h2 := W2) (⟨L18, [], W1⟩ : St) 27 (hset_get V5 rfl) 1 1 (.one (.own 1) (.sl 4 (List.map e_api_Fixup v6))) (by kernel_rfl) (by kernel_rfl) (by kernel_rfl) (by kernel_rfl) (by kernel_rfl) (by kernel_rfl) (hset_sub V5 rfl (Nat.le_of_ble_eq_true rfl)) (by kernel_rfl)) ?_
 exact yqe
 refine yql ⟨L11 ++ L20, [], H⟩ ?_
 refine q_last ⟨L17 ++ L20, [], W1⟩ (st_ldT (X := X) (h2 := W1) (⟨L11 ++ L20, [], H⟩ : St) 27 V5 1 1 false (.one (.own 1) (.sl 4 (List.map e_api_Fixup x4.fixups_))) (some 14) (by kernel_rfl) (by kernel_rfl) (by kernel_rfl) (by kernel_rfl) (by kernel_rfl) (hset_sub0 V5 (Nat.le_of_ble_eq_true rfl)) (by kernel_rfl)) ?_
 refine q_last ⟨L16, [], W1⟩ (st_app (X := X) (⟨L14, [], W1⟩ : St) 32 h7 27 27 43 4 0 (List.replicate 4 (.top, .int .i64 0)) (.own 1) e_api_Fixup 0 (some 22) (by kernel_rfl) (by kernel_rfl) (by kernel_rfl) (by kernel_rfl) (by kernel_rfl) (by kernel_rfl) (by kernel_rfl) (by kernel_rfl) (by kernel_rfl) (fun _ => rfl) (by kernel_rfl)) ?_
 refine yqt ⟨L16 ++ [E6], [], W1⟩ ?_
 refine yqt ⟨L16 ++ [E6, E7], [], W1⟩ ?_
 refine q_last ⟨L18, [], W2⟩ (st_st (X := X) (lc := []) (h2 := W2) (⟨L18, [], W1⟩ : St) 27 (hset_get V5 rfl) 1 1 (.one (.own 1) (.sl 4 (List.map e_api_Fixup v6))) (by kernel_rfl) (by kernel_rfl) (by kernel_rfl) (by kernel_rfl) (by kernel_rfl) (by kernel_rfl) (hset_sub V5 rfl (Nat.le_of_ble_eq_true rfl)) (by kernel_rfl)) ?_
 exact yqe
 refine eq_via (congrArg (fun q => (⟨L18, [], q⟩ : St)) h9) ?_
 kernel_rfl
 refine w_seq ?_
 refine ysg ⟨L15 ++ [(26, vb (p1 == 3))], [], H8⟩ ?_
 rcases if_inv hF with ⟨h11, hF⟩ | ⟨h11, hF⟩
 refine yT h11 ⟨[E3], [], H8⟩ ?_
 refine w_seq ?_
 obtain ⟨H14, r12, c13, hF⟩ := bind2_inv hF
 refine w_regO ⟨[], [], H14⟩ ?_ ?_
 refine yr 2 S23 ?_
 refine o_one ⟨[E3, E8, E9, (29, vi r12)], [], H14⟩ (yc (some 29) false false S23 (ok_emit_Code_Put H8 c13)) ?_
 exact ye
 refine w_ret ?_
 obtain e0 := some1_inv hF
 subst e0
 exact yi (vN)
 refine yF h11 ⟨L15, [], H8⟩ ?_
 refine w_skip ?_
 refine w_seq ?_
 obtain ⟨H17, r15, c16, hF⟩ := bind2_inv hF
 refine w_regO ⟨L15, [], H17⟩ ?_ ?_
 refine yr 3 ⟨L21, [], H8⟩ ?_
 refine o_one ⟨L21 ++ [(33, vi r15)], [], H17⟩ (yc (some 33) false false (⟨L21, [], H8⟩ : St) (ok_emit_Code_Put H8 c16)) ?_
 exact ye
 obtain ⟨H20, r18, c19, hF⟩ := bind2_inv hF
 refine w_regO ⟨[], [], H20⟩ ?_ ?_
 refine yr 4 ⟨L22, [], H17⟩ ?_
 refine o_one ⟨L22 ++ [(38, vi r18)], [], H20⟩ (yc (some 38) false false (⟨L22, [], H17⟩ : St) (ok_emit_Code_Put H17 c19)) ?_
 exact ye
 obtain e0 := some1_inv hF
 subst e0
 exact yi (vN)
noncomputable def ref17_Fix  (p0 : T_ref17_Code) (p1 : Int) (p2 : Int) (p3 : Int) (p4 : Int) : Option (T_ref17_Code) :=
  bind1 (app 32 ([] : List T_api_Fixup) p0.Fixups_) fun v1 =>
  bind1 (app 32 v1 ([(T_api_Fixup.mk (p0.L_.length : Int) p1 p2 p3)] : List T_api_Fixup)) fun v3 =>
  if (p1 == 3) = true then (bind1 (ref17_Put (T_ref17_Code.mk p0.L_ p0.G_ v3 p0.Pads_ p0.Active_ p0.Depth_ p0.Most_ p0.Err_) (T_ref02_Instr.mk 23 0 0 0 0)) fun r6 =>
  some r6)
  else (bind1 (ref17_Put (T_ref17_Code.mk p0.L_ p0.G_ v3 p0.Pads_ p0.Active_ p0.Depth_ p0.Most_ p0.Err_) (T_ref02_Instr.mk 3 p4 0 0 0)) fun r8 =>
  bind1 (ref17_Put r8 (T_ref02_Instr.mk 4 p4 p4 0 0)) fun r10 =>
  some r10)
noncomputable def emit_Code_Sign (H : Heap) (p0 : Ptr) (p1 : Int) (p2 : Int) (p3 : Int) (p4 : Int) : Option (Heap × Int) :=
  bind2 (emit_Code_Put H p0 (T_instr_Instr.mk p1 p2 p3 0 p4)) fun H3 r1 =>
  some (H3, r1)
theorem ok_emit_Code_Sign (H : Heap) {p0 : Ptr} {p1 : Int} {p2 : Int} {p3 : Int} {p4 : Int} {ra : Int} {Hr : Heap} (hF : emit_Code_Sign H p0 p1 p2 p3 p4 = some (Hr, ra)) : evS X 54 [.one .top (Ptr.av p0), .one .top (.int .i64 p1), .one .top (.int .i64 p2), .one .top (.int .i64 p3), .one .top (.int .i64 p4)] H = some (.one .top (.int .i64 ra), Hr) := by
 let L1 : Ptr → List EN := fun z0 => [(0, vp z0), (1, vi p1), (2, vi p2), (3, vi p3), (4, vi p4)]
 let L2 : Ptr → List EN := fun z0 => [(11, vp z0), (12, vi p1), (13, vi p2), (14, vi p3), (15, vi p4), (16, .agg [(.top, .int .i64 p1), (.top, .int .i64 p2), (.top, .int .i64 p3), (.top, .int .i64 0), (.top, .int .i64 p4)])]
 refine yf Try.func54 false ⟨(L1 p0), [], H⟩ ?_
 unfold emit_Code_Sign at hF
 refine ysg ⟨(L1 p0), [], H⟩ ?_ (h := (by generalize p0 = qp0; cases qp0 <;> kernel_rfl))
 refine w_seq ?_
 obtain ⟨H3, r1, c2, hF⟩ := bind2_inv hF
 refine w_regO ⟨[(10, vi r1)], [], H3⟩ ?_ ?_
 refine yr 6 ⟨(L1 p0) ++ (L2 p0), [], H⟩ ?_ (h := (by generalize p0 = qp0; cases qp0 <;> kernel_rfl))
 refine o_one ⟨(L1 p0) ++ (L2 p0) ++ [(17, vi r1)], [], H3⟩ (yc (some 17) false false (⟨(L1 p0) ++ (L2 p0), [], H⟩ : St) (ok_emit_Code_Put H c2) (hr := (by generalize p0 = qp0; cases qp0 <;> kernel_rfl)) (hs := (by generalize p0 = qp0; cases qp0 <;> kernel_rfl))) ?_
 refine yr 1 ⟨(L1 p0) ++ [(10, vi r1)] ++ (L2 p0) ++ [(17, vi r1)], [], H3⟩ ?_ (h := (by generalize p0 = qp0; cases qp0 <;> kernel_rfl))
 exact ye
 refine w_ret ?_
 obtain ⟨e0, e1⟩ := some2_inv hF
 subst e0
 subst e1
 exact yi (vi r1)
noncomputable def emit_Code_Push (H : Heap) (p0 : Ptr) (p1 : Int) : Option (Heap) :=
  bind2 (emit_Code_Sign H p0 5 15 15 (-4)) fun H3 r1 =>
  bind2 (emit_Code_Sign H3 p0 19 p1 15 0) fun H6 r4 =>
  (p0).bnd fun i7 o8 =>
  bind1 (get_emit_Code H6 i7 o8) fun x10 =>
  bnd (set_emit_Code H6 i7 o8 (T_emit_Code.mk x10.words_ x10.fixups_ x10.marks_ x10.pads_ x10.active_ (IntKind.wrap .i64 (x10.depth_ + 1)) x10.most_ x10.err_)) fun H12 =>
  bnd (set_emit_Code H12 i7 o8 (T_emit_Code.mk x10.words_ x10.fixups_ x10.marks_ x10.pads_ x10.active_ (IntKind.wrap .i64 (x10.depth_ + 1)) (if (IntKind.wrap .i64 (x10.depth_ + 1)) > x10.most_ then (IntKind.wrap .i64 (x10.depth_ + 1)) else x10.most_) x10.err_)) fun H15 =>
  some H15
theorem ok_emit_Code_Push (H : Heap) {p0 : Ptr} {p1 : Int} {Hr : Heap} (hF : emit_Code_Push H p0 p1 = some Hr) : evS X 42 [.one .top (Ptr.av p0), .one .top (.int .i64 p1)] H = some (.tup [], Hr) := by
 let L13 : Ptr → List EN := fun z0 => [(0, vp z0), (1, vi p1)]
 refine yf Try.func42 false ⟨(L13 p0), [], H⟩ ?_
 unfold emit_Code_Push at hF
 refine w_seq ?_
 obtain ⟨H3, r1, c2, hF⟩ := bind2_inv hF
 refine w_regO ⟨(L13 p0), [], H3⟩ ?_ ?_
 refine yr 1 ⟨(L13 p0) ++ [(4, vp p0)], [], H⟩ ?_ (h := (by generalize p0 = qp0; cases qp0 <;> kernel_rfl))
 refine o_one ⟨(L13 p0) ++ [(4, vp p0), (5, vi r1)], [], H3⟩ (yc (some 5) false false (⟨(L13 p0) ++ [(4, vp p0)], [], H⟩ : St) (ok_emit_Code_Sign H c2) (hr := (by generalize p0 = qp0; cases qp0 <;> kernel_rfl)) (hs := (by generalize p0 = qp0; cases qp0 <;> kernel_rfl))) ?_
 exact ye
 refine w_seq ?_
 obtain ⟨H6, r4, c5, hF⟩ := bind2_inv hF
 refine w_regO ⟨[(0, vp p0)], [], H6⟩ ?_ ?_
 refine yr 2 ⟨(L13 p0) ++ [(6, vp p0), (7, vi p1)], [], H3⟩ ?_ (h := (by generalize p0 = qp0; cases qp0 <;> kernel_rfl))
 refine o_one ⟨(L13 p0) ++ [(6, vp p0), (7, vi p1), (8, vi r4)], [], H6⟩ (yc (some 8) false false (⟨(L13 p0) ++ [(6, vp p0), (7, vi p1)], [], H3⟩ : St) (ok_emit_Code_Sign H3 c5) (hr := (by generalize p0 = qp0; cases qp0 <;> kernel_rfl)) (hs := (by generalize p0 = qp0; cases qp0 <;> kernel_rfl))) ?_
 exact ye
 refine w_seq ?_
 obtain ⟨i7, o8, h9, hF⟩ := pbnd_inv hF
 let E3 : EN := (0, vo i7 o8)
 let E4 : EN := (16, vo i7 o8)
 let E5 : EN := (17, vo i7 o8)
 let E6 : EN := (21, vo i7 o8)
 let E7 : EN := (22, vo i7 o8)
 let E9 : EN := (26, vo i7 o8)
 let L10 : List EN := [E3, E4, E5, (18, vo i7 o8), (19, vo i7 (o8 + 6))]
 let L15 : List EN := [E3, (9, vo i7 o8), (10, vo i7 o8), (11, vo i7 (o8 + 5))]
 let L16 : List EN := L10 ++ [E6, E7, (23, vo i7 (o8 + 5))]
 obtain ⟨x10, V11, hF⟩ := bind1_inv hF
 replace V11 := hgetT_inv V11
 let W2 : Heap := hset H6 i7 o8 [((.own 1), .sl 1 (List.map (eI .u32) x10.words_)), ((.own 1), .sl 4 (List.map e_api_Fixup x10.fixups_)), ((.own 1), .sl 2 (List.map e_api_Segment x10.marks_.list_)), ((.own 1), .sl 1 (List.map (eI .i64) x10.pads_)), ((.own 1), .sl 1 (List.map (eI .i64) x10.active_)), (.top, .int .i64 (IntKind.wrap .i64 (x10.depth_ + 1))), (.top, .int .i64 x10.most_), (.top, .int .i64 x10.err_)]
 let E8 : EN := (24, vi (IntKind.wrap .i64 (x10.depth_ + 1)))
 let L11 : List EN := L10 ++ [(20, vi x10.most_), E6, E7, (23, vo i7 (o8 + 5))]
 let L12 : List EN := L11 ++ [E8, (25, vi (if (IntKind.wrap .i64 (x10.depth_ + 1)) > x10.most_ then (IntKind.wrap .i64 (x10.depth_ + 1)) else x10.most_))]
 let L14 : List EN := L12 ++ [E9, (27, vo i7 (o8 + 6))]
 let L17 : List EN := L15 ++ [(12, vi x10.depth_), (13, vi (IntKind.wrap .i64 (x10.depth_ + 1))), (14, vo i7 o8), (15, vo i7 (o8 + 5))]
 obtain ⟨H12, h13, hF⟩ := bnd_inv hF
 let W1 : Heap := hset H12 i7 o8 [((.own 1), .sl 1 (List.map (eI .u32) x10.words_)), ((.own 1), .sl 4 (List.map e_api_Fixup x10.fixups_)), ((.own 1), .sl 2 (List.map e_api_Segment x10.marks_.list_)), ((.own 1), .sl 1 (List.map (eI .i64) x10.pads_)), ((.own 1), .sl 1 (List.map (eI .i64) x10.active_)), (.top, .int .i64 (IntKind.wrap .i64 (x10.depth_ + 1))), (.top, .int .i64 (if (IntKind.wrap .i64 (x10.depth_ + 1)) > x10.most_ then (IntKind.wrap .i64 (x10.depth_ + 1)) else x10.most_)), (.top, .int .i64 x10.err_)]
 have V14 : hget H12 i7 o8 8 = some (o_emit_Code (T_emit_Code.mk x10.words_ x10.fixups_ x10.marks_ x10.pads_ x10.active_ (IntKind.wrap .i64 (x10.depth_ + 1)) x10.most_ x10.err_)) := by rw [← h13]; exact hset_get V11 rfl
 refine w_regO ⟨[E3], [], H12⟩ ?_ ?_
 refine yr 1 ⟨[(0, vp p0), (9, vp p0)], [], H6⟩ ?_ (h := (by generalize p0 = qp0; cases qp0 <;> kernel_rfl))
 refine o_eq (congrArg (fun q => (⟨[(0, vp q), (9, vp q)], [], H6⟩ : St)) h9) ?_
 refine yr 1 ⟨[E3, (9, vo i7 o8), (10, vo i7 o8)], [], H6⟩ ?_
 refine yr 1 ⟨L15, [], H6⟩ ?_
 refine o_one ⟨L15 ++ [(12, vi x10.depth_)], [], H6⟩ (yd (X := X) (⟨L15, [], H6⟩ : St) 3 V11 5 1 false (vi x10.depth_) (some 12)) ?_
 refine yr 3 ⟨L17, [], H6⟩ ?_
 refine o_one ⟨L17, [], W2⟩ (st_st (X := X) (lc := []) (h2 := W2) (⟨L17, [], H6⟩ : St) 3 V11 5 1 (vi (IntKind.wrap .i64 (x10.depth_ + 1))) (by kernel_rfl) (by kernel_rfl) (by kernel_rfl) (by kernel_rfl) (by kernel_rfl) (by kernel_rfl) (hset_sub0 V11 (Nat.le_of_ble_eq_true rfl)) (by kernel_rfl)) ?_
 refine o_eq (congrArg (fun q => (⟨L17, [], q⟩ : St)) h13) ?_
 exact ye
 obtain ⟨H15, h16, hF⟩ := bnd_inv hF
 have V17 : hget H15 i7 o8 8 = some (o_emit_Code (T_emit_Code.mk x10.words_ x10.fixups_ x10.marks_ x10.pads_ x10.active_ (IntKind.wrap .i64 (x10.depth_ + 1)) (if (IntKind.wrap .i64 (x10.depth_ + 1)) > x10.most_ then (IntKind.wrap .i64 (x10.depth_ + 1)) else x10.most_) x10.err_)) := by rw [← h16]; exact hset_get V14 rfl
 let K18 : Sch := .take 9 (.take 10 (.take 11 (.last 12 .done)))
 refine w_regD (.take 0 (.take 1 (.take 2 (.take 3 (.take 5 (.take 6 (.take 7 (.alt 4 (.last 8 K18) (.last 8 (.last 4 K18)))))))))) (by kernel_rfl) (⟨[], [], H15⟩ : St) ?_ ?_
 refine ydk 7 ⟨L16, [], H12⟩ ?_
 refine q_in (⟨L14, [], W1⟩ : St) ?_ ?_
 refine q_alt ⟨L11, [], H12⟩ (yd (X := X) (⟨L16, [], H12⟩ : St) 3 V14 6 1 false (vi x10.most_) (some 20)) ?_ ?_
 refine q_last ⟨L11 ++ [E8], [], H12⟩ (yd (X := X) (⟨L11, [], H12⟩ : St) 3 V14 5 1 false (vi (IntKind.wrap .i64 (x10.depth_ + 1))) (some 24)) ?_
 refine yqt ⟨L12, [], H12⟩ ?_
 refine yqt ⟨L12 ++ [E9], [], H12⟩ ?_
 refine yqt ⟨L14, [], H12⟩ ?_
 refine q_last ⟨L14, [], W1⟩ (st_st (X := X) (lc := []) (h2 := W1) (⟨L14, [], H12⟩ : St) 3 V14 6 1 (vi (if (IntKind.wrap .i64 (x10.depth_ + 1)) > x10.most_ then (IntKind.wrap .i64 (x10.depth_ + 1)) else x10.most_)) (by kernel_rfl) (by kernel_rfl) (by kernel_rfl) (by kernel_rfl) (by kernel_rfl) (by kernel_rfl) (hset_sub0 V14 (Nat.le_of_ble_eq_true rfl)) (by kernel_rfl)) ?_
 exact yqe
 refine q_last ⟨L16 ++ [E8], [], H12⟩ (yd (X := X) (⟨L16, [], H12⟩ : St) 3 V14 5 1 false (vi (IntKind.wrap .i64 (x10.depth_ + 1))) (some 24)) ?_
 refine q_last ⟨L11 ++ [E8], [], H12⟩ (yd (X := X) (⟨L16 ++ [E8], [], H12⟩ : St) 3 V14 6 1 false (vi x10.most_) (some 20)) ?_
 refine yqt ⟨L12, [], H12⟩ ?_
 refine yqt ⟨L12 ++ [E9], [], H12⟩ ?_
 refine yqt ⟨L14, [], H12⟩ ?_
 refine q_last ⟨L14, [], W1⟩ (st_st (X := X) (lc := []) (h2 := W1) (⟨L14, [], H12⟩ : St) 3 V14 6 1 (vi (if (IntKind.wrap .i64 (x10.depth_ + 1)) > x10.most_ then (IntKind.wrap .i64 (x10.depth_ + 1)) else x10.most_)) (by kernel_rfl) (by kernel_rfl) (by kernel_rfl) (by kernel_rfl) (by kernel_rfl) (by kernel_rfl) (hset_sub0 V14 (Nat.le_of_ble_eq_true rfl)) (by kernel_rfl)) ?_
 exact yqe
 refine eq_via (congrArg (fun q => (⟨L14, [], q⟩ : St)) h16) ?_
 kernel_rfl
 obtain e0 := some1_inv hF
 subst e0
 exact yi (vN)
noncomputable def ref17_Push  (p0 : T_ref17_Code) (p1 : Int) : Option (T_ref17_Code) :=
  bind1 (ref17_Put p0 (T_ref02_Instr.mk 5 15 15 0 (-4))) fun r1 =>
  bind1 (ref17_Put r1 (T_ref02_Instr.mk 19 p1 15 0 0)) fun r3 =>
  some (T_ref17_Code.mk r3.L_ r3.G_ r3.Fixups_ r3.Pads_ r3.Active_ (IntKind.wrap .i64 (r3.Depth_ + 1)) (if (IntKind.wrap .i64 (r3.Depth_ + 1)) > r3.Most_ then (IntKind.wrap .i64 (r3.Depth_ + 1)) else r3.Most_) r3.Err_)
noncomputable def emit_Code_Drop (H : Heap) (p0 : Ptr) (p1 : Int) : Option (Heap) :=
  (p0).bnd fun i1 o2 =>
  bind1 (get_emit_Code H i1 o2) fun x4 =>
  bnd (set_emit_Code H i1 o2 (T_emit_Code.mk x4.words_ x4.fixups_ x4.marks_ x4.pads_ x4.active_ (if (IntKind.wrap .i64 (x4.depth_ - p1)) > 0 then (IntKind.wrap .i64 (x4.depth_ - p1)) else 0) x4.most_ x4.err_)) fun H6 =>
  some H6
theorem ok_emit_Code_Drop (H : Heap) {p0 : Ptr} {p1 : Int} {Hr : Heap} (hF : emit_Code_Drop H p0 p1 = some Hr) : evS X 29 [.one .top (Ptr.av p0), .one .top (.int .i64 p1)] H = some (.tup [], Hr) := by
 refine yf Try.func29 false ⟨[(0, vp p0), (1, vi p1)], [], H⟩ ?_
 unfold emit_Code_Drop at hF
 obtain ⟨i1, o2, h3, hF⟩ := pbnd_inv hF
 let E2 : EN := (7, vo i1 (o2 + 5))
 let L3 : List EN := [(0, vo i1 o2), (1, vi p1), (4, vo i1 o2), (5, vo i1 o2), (6, vo i1 o2)]
 obtain ⟨x4, V5, hF⟩ := bind1_inv hF
 replace V5 := hgetT_inv V5
 let W1 : Heap := hset H i1 o2 [((.own 1), .sl 1 (List.map (eI .u32) x4.words_)), ((.own 1), .sl 4 (List.map e_api_Fixup x4.fixups_)), ((.own 1), .sl 2 (List.map e_api_Segment x4.marks_.list_)), ((.own 1), .sl 1 (List.map (eI .i64) x4.pads_)), ((.own 1), .sl 1 (List.map (eI .i64) x4.active_)), (.top, .int .i64 (if (IntKind.wrap .i64 (x4.depth_ - p1)) > 0 then (IntKind.wrap .i64 (x4.depth_ - p1)) else 0)), (.top, .int .i64 x4.most_), (.top, .int .i64 x4.err_)]
 let L4 : List EN := L3 ++ [E2, (8, vi x4.depth_), (9, vi p1), (10, vi (IntKind.wrap .i64 (x4.depth_ - p1))), (11, vi (if (IntKind.wrap .i64 (x4.depth_ - p1)) > 0 then (IntKind.wrap .i64 (x4.depth_ - p1)) else 0)), (12, vo i1 o2), (13, vo i1 (o2 + 5))]
 obtain ⟨H6, h7, hF⟩ := bnd_inv hF
 have V8 : hget H6 i1 o2 8 = some (o_emit_Code (T_emit_Code.mk x4.words_ x4.fixups_ x4.marks_ x4.pads_ x4.active_ (if (IntKind.wrap .i64 (x4.depth_ - p1)) > 0 then (IntKind.wrap .i64 (x4.depth_ - p1)) else 0) x4.most_ x4.err_)) := by rw [← h7]; exact hset_get V5 rfl
 refine w_regO ⟨[], [], H6⟩ ?_ ?_
 refine yr 2 ⟨[(0, vp p0), (1, vi p1), (4, vp p0), (5, vp p0)], [], H⟩ ?_ (h := (by generalize p0 = qp0; cases qp0 <;> kernel_rfl))
 refine o_eq (congrArg (fun q => (⟨[(0, vp q), (1, vi p1), (4, vp q), (5, vp q)], [], H⟩ : St)) h3) ?_
 refine yr 1 ⟨L3, [], H⟩ ?_
 refine yr 1 ⟨L3 ++ [E2], [], H⟩ ?_
 refine o_one ⟨L3 ++ [E2, (8, vi x4.depth_)], [], H⟩ (yd (X := X) (⟨L3 ++ [E2], [], H⟩ : St) 3 V5 5 1 false (vi x4.depth_) (some 8)) ?_
 refine yr 5 ⟨L4, [], H⟩ ?_
 refine o_one ⟨L4, [], W1⟩ (st_st (X := X) (lc := []) (h2 := W1) (⟨L4, [], H⟩ : St) 3 V5 5 1 (vi (if (IntKind.wrap .i64 (x4.depth_ - p1)) > 0 then (IntKind.wrap .i64 (x4.depth_ - p1)) else 0)) (by kernel_rfl) (by kernel_rfl) (by kernel_rfl) (by kernel_rfl) (by kernel_rfl) (by kernel_rfl) (hset_sub0 V5 (Nat.le_of_ble_eq_true rfl)) (by kernel_rfl)) ?_
 refine o_eq (congrArg (fun q => (⟨L4, [], q⟩ : St)) h7) ?_
 exact ye
 obtain e0 := some1_inv hF
 subst e0
 exact yi (vN)
noncomputable def emit_Code_Pop (H : Heap) (p0 : Ptr) (p1 : Int) : Option (Heap) :=
  bind2 (emit_Code_Sign H p0 18 p1 15 0) fun H3 r1 =>
  bind2 (emit_Code_Sign H3 p0 5 15 15 4) fun H6 r4 =>
  bind1 (emit_Code_Drop H6 p0 1) fun H8 =>
  some H8
theorem ok_emit_Code_Pop (H : Heap) {p0 : Ptr} {p1 : Int} {Hr : Heap} (hF : emit_Code_Pop H p0 p1 = some Hr) : evS X 44 [.one .top (Ptr.av p0), .one .top (.int .i64 p1)] H = some (.tup [], Hr) := by
 let E1 : Ptr → EN := fun z0 => (0, vp z0)
 let L2 : Ptr → List EN := fun z0 => [(E1 z0), (1, vi p1), (4, vp z0), (5, vi p1)]
 refine yf Try.func44 false ⟨[(E1 p0), (1, vi p1)], [], H⟩ ?_
 unfold emit_Code_Pop at hF
 refine w_seq ?_
 obtain ⟨H3, r1, c2, hF⟩ := bind2_inv hF
 let S3 : Ptr → St := fun z0 => ⟨[(E1 z0), (7, vp z0)], [], H3⟩
 refine w_regO ⟨[(E1 p0)], [], H3⟩ ?_ ?_
 refine yr 2 ⟨(L2 p0), [], H⟩ ?_ (h := (by generalize p0 = qp0; cases qp0 <;> kernel_rfl))
 refine o_one ⟨(L2 p0) ++ [(6, vi r1)], [], H3⟩ (yc (some 6) false false (⟨(L2 p0), [], H⟩ : St) (ok_emit_Code_Sign H c2) (hr := (by generalize p0 = qp0; cases qp0 <;> kernel_rfl)) (hs := (by generalize p0 = qp0; cases qp0 <;> kernel_rfl))) ?_
 exact ye
 refine w_seq ?_
 obtain ⟨H6, r4, c5, hF⟩ := bind2_inv hF
 let S4 : Ptr → St := fun z0 => ⟨[(E1 z0), (9, vp z0)], [], H6⟩
 refine w_regO ⟨[(E1 p0)], [], H6⟩ ?_ ?_
 refine yr 1 (S3 p0) ?_ (h := (by generalize p0 = qp0; cases qp0 <;> kernel_rfl))
 refine o_one ⟨[(E1 p0), (7, vp p0), (8, vi r4)], [], H6⟩ (yc (some 8) false false (S3 p0) (ok_emit_Code_Sign H3 c5) (hr := (by generalize p0 = qp0; cases qp0 <;> kernel_rfl)) (hs := (by generalize p0 = qp0; cases qp0 <;> kernel_rfl))) ?_
 exact ye
 obtain ⟨H8, c7, hF⟩ := bind1_inv hF
 refine w_regO ⟨[], [], H8⟩ ?_ ?_
 refine yr 1 (S4 p0) ?_ (h := (by generalize p0 = qp0; cases qp0 <;> kernel_rfl))
 refine o_one ⟨[(E1 p0), (9, vp p0), (10, vN)], [], H8⟩ (yc (some 10) false false (S4 p0) (ok_emit_Code_Drop H6 c7) (hr := (by generalize p0 = qp0; cases qp0 <;> kernel_rfl)) (hs := (by generalize p0 = qp0; cases qp0 <;> kernel_rfl))) ?_
 exact ye
 obtain e0 := some1_inv hF
 subst e0
 exact yi (vN)
noncomputable def ref17_Pop  (p0 : T_ref17_Code) (p1 : Int) : Option (T_ref17_Code) :=
  bind1 (ref17_Put p0 (T_ref02_Instr.mk 18 p1 15 0 0)) fun r1 =>
  bind1 (ref17_Put r1 (T_ref02_Instr.mk 5 15 15 0 4)) fun r3 =>
  some (T_ref17_Code.mk r3.L_ r3.G_ r3.Fixups_ r3.Pads_ r3.Active_ (if (IntKind.wrap .i64 (r3.Depth_ - 1)) > 0 then (IntKind.wrap .i64 (r3.Depth_ - 1)) else 0) r3.Most_ r3.Err_)
noncomputable def law17_writes (H : Heap) (p0 : Ptr) (p1 : T_ref17_Code) (p2 : T_law17_Op) : Option (Heap × T_ref17_Code) :=
  if (p2.Kind_ == 0) = true then (bind2 (emit_Code_Put H p0 p2.I_) fun H4 r2 =>
  bind1 (ref17_Put p1 (T_ref02_Instr.mk p2.I_.Op_ p2.I_.A_ p2.I_.B_ p2.I_.C_ p2.I_.Imm_)) fun r5 =>
  some (H4, r5))
  else (if (p2.Kind_ == 1) = true then (bind1 (emit_Code_Number H p0 p2.A_ (IntKind.wrap .i32 p2.N_)) fun H9 =>
  bind1 (ref17_Number p1 p2.A_ (IntKind.wrap .i32 p2.N_)) fun r10 =>
  some (H9, r10))
  else (if (p2.Kind_ == 2) = true then (bind2 (emit_Code_Jump H p0 22 0) fun H15 r13 =>
  bind1 (ref17_Put p1 (T_ref02_Instr.mk 22 0 0 0 0)) fun r16 =>
  some (H15, r16))
  else (if (p2.Kind_ == 4) = true then (bind1 (emit_Code_Back H p0 22 0 p2.A_) fun H20 =>
  bind1 (ref17_Put p1 (T_ref02_Instr.mk 22 0 0 0 0)) fun r21 =>
  bind1 (ref17_Patch r21 (IntKind.wrap .i64 ((r21.L_.length : Int) - 1)) (IntKind.wrap .i64 (p2.A_ - (r21.L_.length : Int)))) fun r23 =>
  some (H20, r23))
  else (if (p2.Kind_ == 6) = true then (bind1 (emit_Code_Fix H p0 p2.N_ p2.A_ p2.B_ p2.C_) fun H27 =>
  bind1 (ref17_Fix p1 p2.N_ p2.A_ p2.B_ p2.C_) fun r28 =>
  some (H27, r28))
  else (if (p2.Kind_ == 7) = true then (bind1 (emit_Code_Push H p0 p2.A_) fun H32 =>
  bind1 (ref17_Push p1 p2.A_) fun r33 =>
  some (H32, r33))
  else (if (p2.Kind_ == 8) = true then (bind1 (emit_Code_Pop H p0 p2.A_) fun H37 =>
  bind1 (ref17_Pop p1 p2.A_) fun r38 =>
  some (H37, r38))
  else (some (H, p1))))))))
noncomputable def emit_Code_Patch (H : Heap) (p0 : Ptr) (p1 : Int) (p2 : Int) : Option (Heap) :=
  bind1 (emit_Code_set H p0 p1 p2) fun H2 =>
  some H2
theorem ok_emit_Code_Patch (H : Heap) {p0 : Ptr} {p1 : Int} {p2 : Int} {Hr : Heap} (hF : emit_Code_Patch H p0 p1 p2 = some Hr) : evS X 28 [.one .top (Ptr.av p0), .one .top (.int .i64 p1), .one .top (.int .i64 p2)] H = some (.tup [], Hr) := by
 let L1 : Ptr → List EN := fun z0 => [(0, vp z0), (1, vi p1), (2, vi p2), (6, vp z0), (7, vi p1), (8, vi p2)]
 refine yf Try.func28 false ⟨[(0, vp p0), (1, vi p1), (2, vi p2)], [], H⟩ ?_
 unfold emit_Code_Patch at hF
 obtain ⟨H2, c1, hF⟩ := bind1_inv hF
 refine w_regO ⟨[], [], H2⟩ ?_ ?_
 refine yr 3 ⟨(L1 p0), [], H⟩ ?_ (h := (by generalize p0 = qp0; cases qp0 <;> kernel_rfl))
 refine o_one ⟨(L1 p0) ++ [(9, vN)], [], H2⟩ (yc (some 9) false false (⟨(L1 p0), [], H⟩ : St) (ok_emit_Code_set H c1) (hr := (by generalize p0 = qp0; cases qp0 <;> kernel_rfl)) (hs := (by generalize p0 = qp0; cases qp0 <;> kernel_rfl))) ?_
 exact ye
 obtain e0 := some1_inv hF
 subst e0
 exact yi (vN)
noncomputable def emit_Code_Pad (H : Heap) (p0 : Ptr) : Option (Heap × Int) :=
  (p0).bnd fun i1 o2 =>
  bind1 (get_emit_Code H i1 o2) fun x4 =>
  bind1 (app 8 x4.pads_ ([-1] : List Int)) fun v6 =>
  bnd (set_emit_Code H i1 o2 (T_emit_Code.mk x4.words_ x4.fixups_ x4.marks_ v6 x4.active_ x4.depth_ x4.most_ x4.err_)) fun H8 =>
  some (H8, (IntKind.wrap .i64 ((v6.length : Int) - 1)))
theorem ok_emit_Code_Pad (H : Heap) {p0 : Ptr} {ra : Int} {Hr : Heap} (hF : emit_Code_Pad H p0 = some (Hr, ra)) : evS X 30 [.one .top (Ptr.av p0)] H = some (.one .top (.int .i64 ra), Hr) := by
 refine yf Try.func30 false ⟨[(0, vp p0)], [], H⟩ ?_
 unfold emit_Code_Pad at hF
 refine ysg ⟨[(0, vp p0)], [], H⟩ ?_ (h := (by generalize p0 = qp0; cases qp0 <;> kernel_rfl))
 refine w_seq ?_
 obtain ⟨i1, o2, h3, hF⟩ := pbnd_inv hF
 let E3 : EN := (0, vo i1 o2)
 let L9 : List EN := [E3, (3, vo i1 o2), (4, vo i1 o2), (5, vo i1 o2), (6, vo i1 (o2 + 3))]
 let L10 : List EN := L9 ++ [(7, .one .top .junk), (8, .one .top .junk)]
 let L11 : List EN := [E3, (12, vo i1 o2), (13, vo i1 o2), (14, vo i1 (o2 + 3))]
 let L12 : List EN := L10 ++ [(9, .one .top .junk), (10, vo i1 o2), (11, vo i1 (o2 + 3))]
 obtain ⟨x4, V5, hF⟩ := bind1_inv hF
 replace V5 := hgetT_inv V5
 let W1 : Heap := hset H i1 o2 [((.own 1), .sl 1 (List.map (eI .u32) x4.words_)), ((.own 1), .sl 4 (List.map e_api_Fixup x4.fixups_)), ((.own 1), .sl 2 (List.map e_api_Segment x4.marks_.list_)), (.top, .junk), ((.own 1), .sl 1 (List.map (eI .i64) x4.active_)), (.top, .int .i64 x4.depth_), (.top, .int .i64 x4.most_), (.top, .int .i64 x4.err_)]
 let E4 : EN := (7, .one (.own 1) (.sl 1 (List.map (eI .i64) x4.pads_)))
 obtain ⟨v6, h7, hF⟩ := bind1_inv hF
 let W2 : Heap := hset H i1 o2 [((.own 1), .sl 1 (List.map (eI .u32) x4.words_)), ((.own 1), .sl 4 (List.map e_api_Fixup x4.fixups_)), ((.own 1), .sl 2 (List.map e_api_Segment x4.marks_.list_)), ((.own 1), .sl 1 (List.map (eI .i64) v6)), ((.own 1), .sl 1 (List.map (eI .i64) x4.active_)), (.top, .int .i64 x4.depth_), (.top, .int .i64 x4.most_), (.top, .int .i64 x4.err_)]
 let E5 : EN := (9, .one (.own 1) (.sl 1 (List.map (eI .i64) v6)))
 let E6 : EN := (2, vi (IntKind.wrap .i64 ((v6.length : Int) - 1)))
 let E7 : EN := (15, .one .bh (.sl 1 (List.map (eI .i64) v6)))
 let E8 : EN := (16, vi (v6.length : Int))
 obtain ⟨H8, h9, hF⟩ := bnd_inv hF
 have V10 : hget H8 i1 o2 8 = some (o_emit_Code (T_emit_Code.mk x4.words_ x4.fixups_ x4.marks_ v6 x4.active_ x4.depth_ x4.most_ x4.err_)) := by rw [← h9]; exact hset_get V5 rfl
 refine w_regO ⟨[E3], [], H8⟩ ?_ ?_
 refine yr 2 ⟨[(0, vp p0), (3, vp p0), (4, vp p0)], [], H⟩ ?_ (h := (by generalize p0 = qp0; cases qp0 <;> kernel_rfl))
 refine o_eq (congrArg (fun q => (⟨[(0, vp q), (3, vp q), (4, vp q)], [], H⟩ : St)) h3) ?_
 refine yr 1 ⟨[E3, (3, vo i1 o2), (4, vo i1 o2), (5, vo i1 o2)], [], H⟩ ?_
 refine yr 1 ⟨L9, [], H⟩ ?_
 refine o_one ⟨L9 ++ [E4], [], W1⟩ (st_ldT (X := X) (h2 := W1) (⟨L9, [], H⟩ : St) 26 V5 3 1 false (.one (.own 1) (.sl 1 (List.map (eI .i64) x4.pads_))) (some 7) (by kernel_rfl) (by kernel_rfl) (by kernel_rfl) (by kernel_rfl) (by kernel_rfl) (hset_sub0 V5 (Nat.le_of_ble_eq_true rfl)) (by kernel_rfl)) ?_
 refine yr 1 ⟨L9 ++ [E4, (8, .one (.own 1) (.sl 1 (List.map (eI .i64) ([-1] : List Int))))], [], W1⟩ ?_
 refine o_one ⟨L10 ++ [E5], [], W1⟩ (st_app (X := X) (⟨L10, [], W1⟩ : St) 8 h7 26 26 3 1 0 [(.top, .int .i64 0)] (.own 1) (eI .i64) 0 (some 9) (by kernel_rfl) (by kernel_rfl) (by kernel_rfl) (by kernel_rfl) (by kernel_rfl) (by kernel_rfl) (by kernel_rfl) (by kernel_rfl) (by kernel_rfl) (fun _ => rfl) (by kernel_rfl)) ?_
 refine yr 2 ⟨L10 ++ [E5, (10, vo i1 o2), (11, vo i1 (o2 + 3))], [], W1⟩ ?_
 refine o_one ⟨L12, [], W2⟩ (st_st (X := X) (lc := []) (h2 := W2) (⟨L12, [], W1⟩ : St) 26 (hset_get V5 rfl) 3 1 (.one (.own 1) (.sl 1 (List.map (eI .i64) v6))) (by kernel_rfl) (by kernel_rfl) (by kernel_rfl) (by kernel_rfl) (by kernel_rfl) (by kernel_rfl) (hset_sub V5 rfl (Nat.le_of_ble_eq_true rfl)) (by kernel_rfl)) ?_
 refine o_eq (congrArg (fun q => (⟨L12, [], q⟩ : St)) h9) ?_
 exact ye
 refine yso ⟨[E6], [], H8⟩ ?_ ?_
 refine yr 3 ⟨L11, [], H8⟩ ?_
 refine o_one ⟨L11 ++ [E7], [], H8⟩ (yd (X := X) (⟨L11, [], H8⟩ : St) 26 V10 3 1 false (.one .bh (.sl 1 (List.map (eI .i64) v6))) (some 15)) ?_
 refine o_one ⟨L11 ++ [E7, E8], [], H8⟩ (yl (⟨L11 ++ [E7], [], H8⟩ : St) v6 (eI .i64) (some 16)) ?_
 refine yr 2 ⟨[E3, E6, (12, vo i1 o2), (13, vo i1 o2), (14, vo i1 (o2 + 3)), E7, E8, (17, vi (IntKind.wrap .i64 ((v6.length : Int) - 1)))], [], H8⟩ ?_
 exact ye
 refine w_ret ?_
 obtain ⟨e0, e1⟩ := some2_inv hF
 subst e0
 subst e1
 exact yi (vi (IntKind.wrap .i64 ((v6.length : Int) - 1)))
noncomputable def emit_Code_Guard (H : Heap) (p0 : Ptr) (p1 : Int) : Option (Heap) :=
  (p0).bnd fun i1 o2 =>
  bind1 (get_emit_Code H i1 o2) fun x4 =>
  bind1 (app 8 x4.active_ ([p1] : List Int)) fun v6 =>
  bnd (set_emit_Code H i1 o2 (T_emit_Code.mk x4.words_ x4.fixups_ x4.marks_ x4.pads_ v6 x4.depth_ x4.most_ x4.err_)) fun H8 =>
  bind1 (ranges_Builder_Mark H8 (Ptr.at i1 (o2 + 2)) (x4.words_.length : Int) p1) fun H12 =>
  some H12
theorem ok_emit_Code_Guard (H : Heap) {p0 : Ptr} {p1 : Int} {Hr : Heap} (hF : emit_Code_Guard H p0 p1 = some Hr) : evS X 31 [.one .top (Ptr.av p0), .one .top (.int .i64 p1)] H = some (.tup [], Hr) := by
 let E7 : EN := (19, vi p1)
 refine yf Try.func31 false ⟨[(0, vp p0), (1, vi p1)], [], H⟩ ?_
 unfold emit_Code_Guard at hF
 refine w_seq ?_
 obtain ⟨i1, o2, h3, hF⟩ := pbnd_inv hF
 let E5 : EN := (14, vo i1 o2)
 let E6 : EN := (15, vo i1 o2)
 let L9 : List EN := [(0, vo i1 o2), (1, vi p1)]
 let L10 : List EN := L9 ++ [(4, vo i1 o2), (5, vo i1 o2), (6, vo i1 o2), (7, vo i1 (o2 + 4))]
 let L11 : List EN := L10 ++ [(8, .one .top .junk), (9, vi p1), (10, .one .top .junk)]
 let L12 : List EN := L9 ++ [E5, E6, (16, vo i1 (o2 + 2)), (17, vo i1 o2)]
 let L13 : List EN := L11 ++ [(11, .one .top .junk), (12, vo i1 o2), (13, vo i1 (o2 + 4))]
 obtain ⟨x4, V5, hF⟩ := bind1_inv hF
 replace V5 := hgetT_inv V5
 let W1 : Heap := hset H i1 o2 [((.own 1), .sl 1 (List.map (eI .u32) x4.words_)), ((.own 1), .sl 4 (List.map e_api_Fixup x4.fixups_)), ((.own 1), .sl 2 (List.map e_api_Segment x4.marks_.list_)), ((.own 1), .sl 1 (List.map (eI .i64) x4.pads_)), (.top, .junk), (.top, .int .i64 x4.depth_), (.top, .int .i64 x4.most_), (.top, .int .i64 x4.err_)]
 let E3 : EN := (8, .one (.own 1) (.sl 1 (List.map (eI .i64) x4.active_)))
 let E8 : EN := (18, vi (x4.words_.length : Int))
 obtain ⟨v6, h7, hF⟩ := bind1_inv hF
 let W2 : Heap := hset H i1 o2 [((.own 1), .sl 1 (List.map (eI .u32) x4.words_)), ((.own 1), .sl 4 (List.map e_api_Fixup x4.fixups_)), ((.own 1), .sl 2 (List.map e_api_Segment x4.marks_.list_)), ((.own 1), .sl 1 (List.map (eI .i64) x4.pads_)), ((.own 1), .sl 1 (List.map (eI .i64) v6)), (.top, .int .i64 x4.depth_), (.top, .int .i64 x4.most_), (.top, .int .i64 x4.err_)]
 let E4 : EN := (11, .one (.own 1) (.sl 1 (List.map (eI .i64) v6)))
 obtain ⟨H8, h9, hF⟩ := bnd_inv hF
 have V10 : hget H8 i1 o2 8 = some (o_emit_Code (T_emit_Code.mk x4.words_ x4.fixups_ x4.marks_ x4.pads_ v6 x4.depth_ x4.most_ x4.err_)) := by rw [← h9]; exact hset_get V5 rfl
 refine w_regO ⟨L9, [], H8⟩ ?_ ?_
 refine yr 2 ⟨[(0, vp p0), (1, vi p1), (4, vp p0), (5, vp p0)], [], H⟩ ?_ (h := (by generalize p0 = qp0; cases qp0 <;> kernel_rfl))
 refine o_eq (congrArg (fun q => (⟨[(0, vp q), (1, vi p1), (4, vp q), (5, vp q)], [], H⟩ : St)) h3) ?_
 refine yr 1 ⟨L9 ++ [(4, vo i1 o2), (5, vo i1 o2), (6, vo i1 o2)], [], H⟩ ?_
 refine yr 1 ⟨L10, [], H⟩ ?_
 refine o_one ⟨L10 ++ [E3], [], W1⟩ (st_ldT (X := X) (h2 := W1) (⟨L10, [], H⟩ : St) 26 V5 4 1 false (.one (.own 1) (.sl 1 (List.map (eI .i64) x4.active_))) (some 8) (by kernel_rfl) (by kernel_rfl) (by kernel_rfl) (by kernel_rfl) (by kernel_rfl) (hset_sub0 V5 (Nat.le_of_ble_eq_true rfl)) (by kernel_rfl)) ?_
 refine yr 2 ⟨L10 ++ [E3, (9, vi p1), (10, .one (.own 1) (.sl 1 (List.map (eI .i64) ([p1] : List Int))))], [], W1⟩ ?_
 refine o_one ⟨L11 ++ [E4], [], W1⟩ (st_app (X := X) (⟨L11, [], W1⟩ : St) 8 h7 26 26 3 1 0 [(.top, .int .i64 0)] (.own 1) (eI .i64) 0 (some 11) (by kernel_rfl) (by kernel_rfl) (by kernel_rfl) (by kernel_rfl) (by kernel_rfl) (by kernel_rfl) (by kernel_rfl) (by kernel_rfl) (by kernel_rfl) (fun _ => rfl) (by kernel_rfl)) ?_
 refine yr 2 ⟨L11 ++ [E4, (12, vo i1 o2), (13, vo i1 (o2 + 4))], [], W1⟩ ?_
 refine o_one ⟨L13, [], W2⟩ (st_st (X := X) (lc := []) (h2 := W2) (⟨L13, [], W1⟩ : St) 26 (hset_get V5 rfl) 4 1 (.one (.own 1) (.sl 1 (List.map (eI .i64) v6))) (by kernel_rfl) (by kernel_rfl) (by kernel_rfl) (by kernel_rfl) (by kernel_rfl) (by kernel_rfl) (hset_sub V5 rfl (Nat.le_of_ble_eq_true rfl)) (by kernel_rfl)) ?_
 refine o_eq (congrArg (fun q => (⟨L13, [], q⟩ : St)) h9) ?_
 exact ye
 obtain ⟨H12, c11, hF⟩ := bind1_inv hF
 refine w_regD (.take 0 (.take 1 (.take 2 (.take 3 (.take 5 (.last 4 (.last 6 .done))))))) (by kernel_rfl) (⟨[], [], H12⟩ : St) ?_ ?_
 refine ydk 5 ⟨L12 ++ [E7], [], H8⟩ ?_
 refine d_last ⟨L12 ++ [E8, E7], [], H8⟩ (yc (some 18) true false (⟨L12 ++ [E7], [], H8⟩ : St) (len_emit_Code_Here (H := H8) V10)) ?_
 refine d_last ⟨L12 ++ [E8, E7, (20, vN)], [], H12⟩ (yc (some 20) false false (⟨L12 ++ [E8, E7], [], H8⟩ : St) (ok_ranges_Builder_Mark H8 c11)) ?_
 exact yde
 obtain e0 := some1_inv hF
 subst e0
 exact yi (vN)
noncomputable def emit_Code_now (H : Heap) (p0 : Ptr) : Option (Int) :=
  (p0).bnd fun i1 o2 =>
  bind1 (get_emit_Code H i1 o2) fun x4 =>
  if ((x4.active_.length : Int) == 0) = true then (some (-1))
  else (bind1 (gi x4.active_ (IntKind.wrap .i64 ((x4.active_.length : Int) - 1))) fun x7 =>
  some x7)
theorem ok_emit_Code_now (H : Heap) {p0 : Ptr} {ra : Int} (hF : emit_Code_now H p0 = some ra) : evS X 46 [.one .top (Ptr.av p0)] H = some (.one .top (.int .i64 ra), H) := by
 refine yf Try.func46 true ⟨[(0, vp p0)], [], H⟩ ?_
 unfold emit_Code_now at hF
 refine ysg ⟨[(0, vp p0)], [], H⟩ ?_ (h := (by generalize p0 = qp0; cases qp0 <;> kernel_rfl))
 refine w_seq ?_
 refine w_seq ?_
 obtain ⟨i1, o2, h3, hF⟩ := pbnd_inv hF
 let E1 : EN := (0, vo i1 o2)
 let E5 : EN := (9, vo i1 o2)
 let E6 : EN := (10, vo i1 o2)
 let E8 : EN := (13, vo i1 o2)
 let E9 : EN := (14, vo i1 o2)
 let L14 : List EN := [E1, E5, E6, (11, vo i1 (o2 + 4))]
 let L16 : List EN := [E1, (3, vo i1 o2), (4, vo i1 o2), (5, vo i1 (o2 + 4))]
 obtain ⟨x4, V5, hF⟩ := bind1_inv hF
 replace V5 := hgetT_inv V5
 let E2 : EN := (8, vb ((x4.active_.length : Int) == 0))
 let E3 : EN := (6, .one .bh (.sl 1 (List.map (eI .i64) x4.active_)))
 let E4 : EN := (7, vi (x4.active_.length : Int))
 let E7 : EN := (12, .one .bh (.sl 1 (List.map (eI .i64) x4.active_)))
 let E10 : EN := (16, .one .bh (.sl 1 (List.map (eI .i64) x4.active_)))
 let E11 : EN := (17, vi (x4.active_.length : Int))
 let E13 : EN := (18, vi (IntKind.wrap .i64 ((x4.active_.length : Int) - 1)))
 let L15 : List EN := L14 ++ [E7, E8, E9, (15, vo i1 (o2 + 4))]
 let L17 : List EN := L15 ++ [E10, E11, E13]
 refine w_regO ⟨[E1, E2], [], H⟩ ?_ ?_
 refine yr 1 ⟨[(0, vp p0), (3, vp p0)], [], H⟩ ?_ (h := (by generalize p0 = qp0; cases qp0 <;> kernel_rfl))
 refine o_eq (congrArg (fun q => (⟨[(0, vp q), (3, vp q)], [], H⟩ : St)) h3) ?_
 refine yr 1 ⟨[E1, (3, vo i1 o2), (4, vo i1 o2)], [], H⟩ ?_
 refine yr 1 ⟨L16, [], H⟩ ?_
 refine o_one ⟨L16 ++ [E3], [], H⟩ (yd (X := X) (⟨L16, [], H⟩ : St) 26 V5 4 1 false (.one .bh (.sl 1 (List.map (eI .i64) x4.active_))) (some 6)) ?_
 refine o_one ⟨L16 ++ [E3, E4], [], H⟩ (yl (⟨L16 ++ [E3], [], H⟩ : St) x4.active_ (eI .i64) (some 7)) ?_
 refine yr 1 ⟨L16 ++ [E3, E4, E2], [], H⟩ ?_
 exact ye
 rcases if_inv hF with ⟨h6, hF⟩ | ⟨h6, hF⟩
 refine yT h6 ⟨[], [], H⟩ ?_
 refine ysg ⟨[(2, vi (-1))], [], H⟩ ?_
 refine w_ret ?_
 obtain e0 := some1_inv hF
 subst e0
 exact yp (vi (-1))
 refine yF h6 ⟨[E1], [], H⟩ ?_
 refine w_skip ?_
 refine w_seq ?_
 obtain ⟨x7, h8, hF⟩ := bind1_inv hF
 let E12 : EN := (19, .one .top (.rd .bh .bh [.int .i64 x7] 0))
 refine w_regD (.take 0 (.take 1 (.take 2 (.take 3 (.take 4 (.take 5 (.take 6 (.take 7 (.take 8 (.take 9 (.take 10 (.take 11 (.take 12 .done))))))))))))) (by kernel_rfl) (⟨[(2, vi x7)], [], H⟩ : St) ?_ ?_
 refine ydk 3 ⟨L14, [], H⟩ ?_
 refine d_take ⟨L14 ++ [E7], [], H⟩ (yd (X := X) (⟨L14, [], H⟩ : St) 26 V5 4 1 false (.one .bh (.sl 1 (List.map (eI .i64) x4.active_))) (some 12)) ?_
 refine ydk 3 ⟨L15, [], H⟩ ?_
 refine d_take ⟨L15 ++ [E10], [], H⟩ (yd (X := X) (⟨L15, [], H⟩ : St) 26 V5 4 1 false (.one .bh (.sl 1 (List.map (eI .i64) x4.active_))) (some 16)) ?_
 refine d_take ⟨L15 ++ [E10, E11], [], H⟩ (yl (⟨L15 ++ [E10], [], H⟩ : St) x4.active_ (eI .i64) (some 17)) ?_
 refine ydt ⟨L17, [], H⟩ ?_
 refine d_take ⟨L17 ++ [E12], [], H⟩ (st_ix (X := X) (⟨L17, [], H⟩ : St) 26 3 1 h8 (eI .i64) .bh (some 19) (by kernel_rfl) (by kernel_rfl) (by kernel_rfl) (by kernel_rfl)) ?_
 refine ydk 2 ⟨[E1, (2, vi x7), E5, E6, (11, vo i1 (o2 + 4)), E7, E8, E9, (15, vo i1 (o2 + 4)), E10, E11, E13, E12, (20, vi x7)], [], H⟩ ?_
 exact yde
 refine w_ret ?_
 obtain e0 := some1_inv hF
 subst e0
 exact yp (vi x7)
end Go.Proofs.Abs
