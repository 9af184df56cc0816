import Derived.Test.YtjheniapmdcelaaCpuOnesF1
set_option linter.unusedVariables false
set_option linter.unusedSimpArgs false
set_option linter.unusedSectionVars false
namespace Go.Proofs.Abs
open Go Go.Proofs
set_option linter.unusedVariables false
set_option maxRecDepth 100000
set_option maxHeartbeats 0
noncomputable def Fp (p0 : T_ref02_Instr) (j26 : Int) (j27 : Int) : Option (Int) :=
  if ((decide (p0.Imm_ < j26)) || (decide (p0.Imm_ > j27))) = true then (some 20)
  else (some 0)
noncomputable def Fs (p0 : T_ref02_Instr) (j32 : Int) (j33 : Int) : Option (Int) :=
  Fp p0 j32 j33
noncomputable def Ft (p0 : T_ref02_Instr) (j35 : Int) (j36 : Int) : Option (Int) :=
  Fs p0 j35 j36
noncomputable def Fu (p0 : T_ref02_Instr) (r1 : Int) (j31 : Bool) : Option (Int) :=
  if j31 = true then (Fs p0 0 65535)
  else (if (r1 == 7) = true then (Ft p0 (-8388608) 8388607)
  else (Ft p0 0 0))
noncomputable def Fv (p0 : T_ref02_Instr) (r1 : Int) (j39 : Bool) : Option (Int) :=
  Fu p0 r1 j39
noncomputable def Fw (p0 : T_ref02_Instr) (r1 : Int) (j25 : Bool) : Option (Int) :=
  if j25 = true then (Fp p0 (-32768) 32767)
  else (if (r1 == 2) = true then (Fu p0 r1 (r1 == 2))
  else (if (r1 == 4) = true then (Fv p0 r1 (r1 == 4))
  else (Fv p0 r1 (r1 == 8))))
noncomputable def Ic  (p0 : T_ref02_Instr) : Option (Int) :=
  Af (Dw p0.Op_) fun r1 =>
  if (decide (r1 < 0)) = true then (some 21)
  else (Vt (Ln r1) fun r4 r5 r6 =>
  if ((decide (p0.A_ < 0)) || ((decide (p0.A_ > 15)) || ((decide (p0.B_ < 0)) || ((decide (p0.B_ > 15)) || ((decide (p0.C_ < 0)) || ((decide (p0.C_ > 15)) || (if (!r4) = true then ((p0.A_ != 0) || (if (!r5) = true then ((p0.B_ != 0) || ((!r6) && (p0.C_ != 0))) else ((!r6) && (p0.C_ != 0)))) else (if (!r5) = true then ((p0.B_ != 0) || ((!r6) && (p0.C_ != 0))) else ((!r6) && (p0.C_ != 0)))))))))) = true then (some 20)
  else (if (r1 == 1) = true then (Fw p0 r1 (r1 == 1))
  else (Fw p0 r1 (r1 == 3))))
theorem Y5 (H : Ah) {p0 : T_ref02_Instr} {ra : Int} (hF : Ic p0 = some ra) : evS X 90 [.agg (Az p0)] H = some (.one .top (.int .i64 ra), H) := by
 let E1 : EN := (1, vl 1 0)
 let B2 : EB := (1, (Az p0))
 let E3 : EN := (9, vl 1 0)
 let E4 : EN := (10, vi p0.Op_)
 let E9 : EN := (7, vi 0)
 let L27 : List EN := [(65, vT), (66, vT), (67, vN), (68, vN), (69, vN), (70, vN), (71, vN), (72, vN), (73, vN), (74, vT)]
 let L28 : List EN := [(56, vT), (57, vT), (58, vN), (59, vN), (60, vN), (61, vN), (62, vN), (63, vN), (64, vN)] ++ L27
 let L29 : List EN := [(47, vT), (48, vT), (49, vN), (50, vN), (51, vN), (52, vN), (53, vN), (54, vN), (55, vN)] ++ L28
 let L33 : List EN := [(42, vT), (43, vT), (44, vN), (45, vN), (46, vN)] ++ L29
 let L34 : List EN := [(68, vF), (69, vF), (70, vN), (71, vN), (72, vN), (73, vF), (74, vF)]
 let L35 : List EN := [(37, vT), (38, vT), (39, vN), (40, vN), (41, vN)] ++ L33
 let L36 : List EN := [(68, vT), (69, vT), (70, vl 1 3), (71, vi p0.C_), (72, vb (p0.C_ != 0)), (73, vb (p0.C_ != 0)), (74, vb (p0.C_ != 0))]
 let L37 : List EN := [(32, vT), (33, vT), (34, vN), (35, vN), (36, vN)] ++ L35
 let L38 : List EN := [(27, vT), (28, vT), (29, vN), (30, vN), (31, vN)] ++ L37
 let S39 : St := ⟨[E1], [B2], H⟩
 let S40 : St := ⟨[E1, E3, E4], [B2], H⟩
 let S41 : St := ⟨[], [], H⟩
 refine yf Try.func90 true ⟨[(0, .agg (Az p0))], [], H⟩ ?_
 unfold Ic at hF
 refine ysg S39 ?_
 refine Ag ?_
 obtain ⟨r1, c2, hF⟩ := Ab hF
 let E5 : EN := (15, vi r1)
 let L10 : List EN := [E1, (3, vi r1)]
 let L24 : List EN := [E1, E9, (8, vi 0), (75, vi r1)]
 refine Aj ⟨L10, [B2], H⟩ ?_ ?_
 refine yr 2 S40 ?_
 refine Ai ⟨[E1, E3, E4, (11, vi r1)], [B2], H⟩ (yc (some 11) true false S40 (Oy H c2)) ?_
 refine yr 1 ⟨L10 ++ [E3, E4, (11, vi r1)], [B2], H⟩ ?_
 exact ye
 refine Ag ?_
 refine ysg ⟨L10 ++ [(13, vb (decide (r1 < 0)))], [B2], H⟩ ?_
 rcases Ae hF with ⟨h3, hF⟩ | ⟨h3, hF⟩
 refine yT h3 S41 ?_
 refine ysg ⟨[(2, vi 21)], [], H⟩ ?_
 refine Au ?_
 obtain e0 := Am hF
 subst e0
 exact yp (vi 21)
 refine yF h3 ⟨L10, [B2], H⟩ ?_
 refine Ao ?_
 refine Ag ?_
 obtain ⟨r4, r5, r6, c7, hF⟩ := R6 hF
 let E6 : EN := (16, .tup [vb r4, vb r5, vb r6])
 let E7 : EN := (68, vb (!r6))
 let E8 : EN := (69, vb (!r6))
 let L11 : List EN := L10 ++ [(4, vb r4), (5, vb r5), (6, vb r6)]
 let L12 : List EN := L11 ++ [(20, vl 1 1), (21, vi p0.A_)]
 let L13 : List EN := L12 ++ [(22, vF), (23, vF), (24, vl 1 1), (25, vi p0.A_)]
 let L14 : List EN := L13 ++ [(26, vF), (27, vF), (28, vF), (29, vl 1 2), (30, vi p0.B_)]
 let L15 : List EN := L14 ++ [(31, vF), (32, vF), (33, vF), (34, vl 1 2), (35, vi p0.B_)]
 let L16 : List EN := L15 ++ [(36, vF), (37, vF), (38, vF), (39, vl 1 3), (40, vi p0.C_)]
 let L17 : List EN := L16 ++ [(41, vF), (42, vF), (43, vF), (44, vl 1 3), (45, vi p0.C_)]
 let L18 : List EN := L17 ++ [(46, vF), (47, vF), (48, vF), (49, vb r4)]
 let L19 : List EN := [(55, vF), (56, vF), (57, vF), (58, vb r5)]
 let L20 : List EN := L18 ++ [(50, vT), (51, vT), (52, vl 1 1), (53, vi p0.A_)]
 let L21 : List EN := [(64, vF), (65, vF), (66, vF), (67, vb r6)]
 let L22 : List EN := L19 ++ [(59, vT), (60, vT), (61, vl 1 2), (62, vi p0.B_)]
 let L23 : List EN := L20 ++ [(54, vF)]
 let L25 : List EN := L18 ++ [(50, vF), (51, vF), (52, vN), (53, vN), (54, vN)]
 let L26 : List EN := L19 ++ [(59, vF), (60, vF), (61, vN), (62, vN), (63, vN)] ++ L21
 let L30 : List EN := L23 ++ L22 ++ [(63, vF)] ++ L21
 let L31 : List EN := L25 ++ L22 ++ [(63, vF)] ++ L21
 refine Aj ⟨L11, [B2], H⟩ ?_ ?_
 refine yr 1 ⟨L10 ++ [E5], [B2], H⟩ ?_
 refine Ai ⟨L10 ++ [E5, E6], [B2], H⟩ (yc (some 16) true false (⟨L10 ++ [E5], [B2], H⟩ : St) (Ur H c7)) ?_
 refine yr 7 ⟨L11 ++ [(14, .tup [vb r4, vb r5, vb r6]), E5, E6, (17, vb r4), (18, vb r5), (19, vb r6)], [B2], H⟩ ?_
 exact ye
 refine Ag ?_
 refine yso ⟨L10 ++ [(74, vb ((decide (p0.A_ < 0)) || ((decide (p0.A_ > 15)) || ((decide (p0.B_ < 0)) || ((decide (p0.B_ > 15)) || ((decide (p0.C_ < 0)) || ((decide (p0.C_ > 15)) || (if (!r4) = true then ((p0.A_ != 0) || (if (!r5) = true then ((p0.B_ != 0) || ((!r6) && (p0.C_ != 0))) else ((!r6) && (p0.C_ != 0)))) else (if (!r5) = true then ((p0.B_ != 0) || ((!r6) && (p0.C_ != 0))) else ((!r6) && (p0.C_ != 0)))))))))))], [B2], H⟩ ?_ ?_
 refine yr 4 ⟨L12 ++ [(22, vb (decide (p0.A_ < 0))), (23, vb (decide (p0.A_ < 0)))], [B2], H⟩ ?_
 rcases Ax (decide (p0.A_ < 0)) with h8 | h8
 refine Bd (congrArg (fun q => (⟨L12 ++ [(22, vb q), (23, vb q)], [B2], H⟩ : St)) h8) ?_
 refine yr 51 ⟨L12 ++ [(22, vT), (23, vT), (24, vN), (25, vN), (26, vN)] ++ L38, [B2], H⟩ ?_
 refine Bw (congrArg (fun q0 => (⟨L10 ++ [(74, vb q0)], [B2], H⟩ : St)) (show true = ((decide (p0.A_ < 0)) || ((decide (p0.A_ > 15)) || ((decide (p0.B_ < 0)) || ((decide (p0.B_ > 15)) || ((decide (p0.C_ < 0)) || ((decide (p0.C_ > 15)) || (if (!r4) = true then ((p0.A_ != 0) || (if (!r5) = true then ((p0.B_ != 0) || ((!r6) && (p0.C_ != 0))) else ((!r6) && (p0.C_ != 0)))) else (if (!r5) = true then ((p0.B_ != 0) || ((!r6) && (p0.C_ != 0))) else ((!r6) && (p0.C_ != 0)))))))))) by simp [h8])) ?_
 exact ye
 refine Bd (congrArg (fun q => (⟨L12 ++ [(22, vb q), (23, vb q)], [B2], H⟩ : St)) h8) ?_
 refine yr 5 ⟨L13 ++ [(26, vb (decide (p0.A_ > 15))), (27, vb (decide (p0.A_ > 15))), (28, vb (decide (p0.A_ > 15)))], [B2], H⟩ ?_
 rcases Ax (decide (p0.A_ > 15)) with h9 | h9
 refine Bd (congrArg (fun q => (⟨L13 ++ [(26, vb q), (27, vb q), (28, vb q)], [B2], H⟩ : St)) h9) ?_
 refine yr 46 ⟨L13 ++ [(26, vT)] ++ L38, [B2], H⟩ ?_
 refine Bw (congrArg (fun q0 => (⟨L10 ++ [(74, vb q0)], [B2], H⟩ : St)) (show true = ((decide (p0.A_ < 0)) || ((decide (p0.A_ > 15)) || ((decide (p0.B_ < 0)) || ((decide (p0.B_ > 15)) || ((decide (p0.C_ < 0)) || ((decide (p0.C_ > 15)) || (if (!r4) = true then ((p0.A_ != 0) || (if (!r5) = true then ((p0.B_ != 0) || ((!r6) && (p0.C_ != 0))) else ((!r6) && (p0.C_ != 0)))) else (if (!r5) = true then ((p0.B_ != 0) || ((!r6) && (p0.C_ != 0))) else ((!r6) && (p0.C_ != 0)))))))))) by simp [h8, h9])) ?_
 exact ye
 refine Bd (congrArg (fun q => (⟨L13 ++ [(26, vb q), (27, vb q), (28, vb q)], [B2], H⟩ : St)) h9) ?_
 refine yr 5 ⟨L14 ++ [(31, vb (decide (p0.B_ < 0))), (32, vb (decide (p0.B_ < 0))), (33, vb (decide (p0.B_ < 0)))], [B2], H⟩ ?_
 rcases Ax (decide (p0.B_ < 0)) with h10 | h10
 refine Bd (congrArg (fun q => (⟨L14 ++ [(31, vb q), (32, vb q), (33, vb q)], [B2], H⟩ : St)) h10) ?_
 refine yr 41 ⟨L14 ++ [(31, vT)] ++ L37, [B2], H⟩ ?_
 refine Bw (congrArg (fun q0 => (⟨L10 ++ [(74, vb q0)], [B2], H⟩ : St)) (show true = ((decide (p0.A_ < 0)) || ((decide (p0.A_ > 15)) || ((decide (p0.B_ < 0)) || ((decide (p0.B_ > 15)) || ((decide (p0.C_ < 0)) || ((decide (p0.C_ > 15)) || (if (!r4) = true then ((p0.A_ != 0) || (if (!r5) = true then ((p0.B_ != 0) || ((!r6) && (p0.C_ != 0))) else ((!r6) && (p0.C_ != 0)))) else (if (!r5) = true then ((p0.B_ != 0) || ((!r6) && (p0.C_ != 0))) else ((!r6) && (p0.C_ != 0)))))))))) by simp [h8, h9, h10])) ?_
 exact ye
 refine Bd (congrArg (fun q => (⟨L14 ++ [(31, vb q), (32, vb q), (33, vb q)], [B2], H⟩ : St)) h10) ?_
 refine yr 5 ⟨L15 ++ [(36, vb (decide (p0.B_ > 15))), (37, vb (decide (p0.B_ > 15))), (38, vb (decide (p0.B_ > 15)))], [B2], H⟩ ?_
 rcases Ax (decide (p0.B_ > 15)) with h11 | h11
 refine Bd (congrArg (fun q => (⟨L15 ++ [(36, vb q), (37, vb q), (38, vb q)], [B2], H⟩ : St)) h11) ?_
 refine yr 36 ⟨L15 ++ [(36, vT)] ++ L35, [B2], H⟩ ?_
 refine Bw (congrArg (fun q0 => (⟨L10 ++ [(74, vb q0)], [B2], H⟩ : St)) (show true = ((decide (p0.A_ < 0)) || ((decide (p0.A_ > 15)) || ((decide (p0.B_ < 0)) || ((decide (p0.B_ > 15)) || ((decide (p0.C_ < 0)) || ((decide (p0.C_ > 15)) || (if (!r4) = true then ((p0.A_ != 0) || (if (!r5) = true then ((p0.B_ != 0) || ((!r6) && (p0.C_ != 0))) else ((!r6) && (p0.C_ != 0)))) else (if (!r5) = true then ((p0.B_ != 0) || ((!r6) && (p0.C_ != 0))) else ((!r6) && (p0.C_ != 0)))))))))) by simp [h8, h9, h10, h11])) ?_
 exact ye
 refine Bd (congrArg (fun q => (⟨L15 ++ [(36, vb q), (37, vb q), (38, vb q)], [B2], H⟩ : St)) h11) ?_
 refine yr 5 ⟨L16 ++ [(41, vb (decide (p0.C_ < 0))), (42, vb (decide (p0.C_ < 0))), (43, vb (decide (p0.C_ < 0)))], [B2], H⟩ ?_
 rcases Ax (decide (p0.C_ < 0)) with h12 | h12
 refine Bd (congrArg (fun q => (⟨L16 ++ [(41, vb q), (42, vb q), (43, vb q)], [B2], H⟩ : St)) h12) ?_
 refine yr 31 ⟨L16 ++ [(41, vT)] ++ L33, [B2], H⟩ ?_
 refine Bw (congrArg (fun q0 => (⟨L10 ++ [(74, vb q0)], [B2], H⟩ : St)) (show true = ((decide (p0.A_ < 0)) || ((decide (p0.A_ > 15)) || ((decide (p0.B_ < 0)) || ((decide (p0.B_ > 15)) || ((decide (p0.C_ < 0)) || ((decide (p0.C_ > 15)) || (if (!r4) = true then ((p0.A_ != 0) || (if (!r5) = true then ((p0.B_ != 0) || ((!r6) && (p0.C_ != 0))) else ((!r6) && (p0.C_ != 0)))) else (if (!r5) = true then ((p0.B_ != 0) || ((!r6) && (p0.C_ != 0))) else ((!r6) && (p0.C_ != 0)))))))))) by simp [h8, h9, h10, h11, h12])) ?_
 exact ye
 refine Bd (congrArg (fun q => (⟨L16 ++ [(41, vb q), (42, vb q), (43, vb q)], [B2], H⟩ : St)) h12) ?_
 refine yr 5 ⟨L17 ++ [(46, vb (decide (p0.C_ > 15))), (47, vb (decide (p0.C_ > 15))), (48, vb (decide (p0.C_ > 15)))], [B2], H⟩ ?_
 rcases Ax (decide (p0.C_ > 15)) with h13 | h13
 refine Bd (congrArg (fun q => (⟨L17 ++ [(46, vb q), (47, vb q), (48, vb q)], [B2], H⟩ : St)) h13) ?_
 refine yr 26 ⟨L17 ++ [(46, vT)] ++ L29, [B2], H⟩ ?_
 refine Bw (congrArg (fun q0 => (⟨L10 ++ [(74, vb q0)], [B2], H⟩ : St)) (show true = ((decide (p0.A_ < 0)) || ((decide (p0.A_ > 15)) || ((decide (p0.B_ < 0)) || ((decide (p0.B_ > 15)) || ((decide (p0.C_ < 0)) || ((decide (p0.C_ > 15)) || (if (!r4) = true then ((p0.A_ != 0) || (if (!r5) = true then ((p0.B_ != 0) || ((!r6) && (p0.C_ != 0))) else ((!r6) && (p0.C_ != 0)))) else (if (!r5) = true then ((p0.B_ != 0) || ((!r6) && (p0.C_ != 0))) else ((!r6) && (p0.C_ != 0)))))))))) by simp [h8, h9, h10, h11, h12, h13])) ?_
 exact ye
 refine Bd (congrArg (fun q => (⟨L17 ++ [(46, vb q), (47, vb q), (48, vb q)], [B2], H⟩ : St)) h13) ?_
 refine yr 3 ⟨L18 ++ [(50, vb (!r4)), (51, vb (!r4))], [B2], H⟩ ?_
 rcases Ax (!r4) with h14 | h14
 refine Bd (congrArg (fun q => (⟨L18 ++ [(50, vb q), (51, vb q)], [B2], H⟩ : St)) h14) ?_
 refine yr 6 ⟨L20 ++ [(54, vb (p0.A_ != 0)), (55, vb (p0.A_ != 0)), (56, vb (p0.A_ != 0)), (57, vb (p0.A_ != 0))], [B2], H⟩ ?_
 rcases Ax (p0.A_ != 0) with h15 | h15
 refine Bd (congrArg (fun q => (⟨L20 ++ [(54, vb q), (55, vb q), (56, vb q), (57, vb q)], [B2], H⟩ : St)) h15) ?_
 refine yr 17 ⟨L20 ++ [(54, vT), (55, vT)] ++ L28, [B2], H⟩ ?_
 refine Bw (congrArg (fun q0 => (⟨L10 ++ [(74, vb q0)], [B2], H⟩ : St)) (show true = ((decide (p0.A_ < 0)) || ((decide (p0.A_ > 15)) || ((decide (p0.B_ < 0)) || ((decide (p0.B_ > 15)) || ((decide (p0.C_ < 0)) || ((decide (p0.C_ > 15)) || (if (!r4) = true then ((p0.A_ != 0) || (if (!r5) = true then ((p0.B_ != 0) || ((!r6) && (p0.C_ != 0))) else ((!r6) && (p0.C_ != 0)))) else (if (!r5) = true then ((p0.B_ != 0) || ((!r6) && (p0.C_ != 0))) else ((!r6) && (p0.C_ != 0)))))))))) by simp [h8, h9, h10, h11, h12, h13, h14, h15])) ?_
 exact ye
 refine Bd (congrArg (fun q => (⟨L20 ++ [(54, vb q), (55, vb q), (56, vb q), (57, vb q)], [B2], H⟩ : St)) h15) ?_
 refine yr 3 ⟨L23 ++ L19 ++ [(59, vb (!r5)), (60, vb (!r5))], [B2], H⟩ ?_
 rcases Ax (!r5) with h16 | h16
 refine Bd (congrArg (fun q => (⟨L23 ++ L19 ++ [(59, vb q), (60, vb q)], [B2], H⟩ : St)) h16) ?_
 refine yr 6 ⟨L23 ++ L22 ++ [(63, vb (p0.B_ != 0)), (64, vb (p0.B_ != 0)), (65, vb (p0.B_ != 0)), (66, vb (p0.B_ != 0))], [B2], H⟩ ?_
 rcases Ax (p0.B_ != 0) with h17 | h17
 refine Bd (congrArg (fun q => (⟨L23 ++ L22 ++ [(63, vb q), (64, vb q), (65, vb q), (66, vb q)], [B2], H⟩ : St)) h17) ?_
 refine yr 8 ⟨L23 ++ L22 ++ [(63, vT), (64, vT)] ++ L27, [B2], H⟩ ?_
 refine Bw (congrArg (fun q0 => (⟨L10 ++ [(74, vb q0)], [B2], H⟩ : St)) (show true = ((decide (p0.A_ < 0)) || ((decide (p0.A_ > 15)) || ((decide (p0.B_ < 0)) || ((decide (p0.B_ > 15)) || ((decide (p0.C_ < 0)) || ((decide (p0.C_ > 15)) || (if (!r4) = true then ((p0.A_ != 0) || (if (!r5) = true then ((p0.B_ != 0) || ((!r6) && (p0.C_ != 0))) else ((!r6) && (p0.C_ != 0)))) else (if (!r5) = true then ((p0.B_ != 0) || ((!r6) && (p0.C_ != 0))) else ((!r6) && (p0.C_ != 0)))))))))) by simp [h8, h9, h10, h11, h12, h13, h14, h15, h16, h17])) ?_
 exact ye
 refine Bd (congrArg (fun q => (⟨L23 ++ L22 ++ [(63, vb q), (64, vb q), (65, vb q), (66, vb q)], [B2], H⟩ : St)) h17) ?_
 refine yr 3 ⟨L30 ++ [E7, E8], [B2], H⟩ ?_
 rcases Ax (!r6) with h18 | h18
 refine Bd (congrArg (fun q => (⟨L30 ++ [(68, vb q), (69, vb q)], [B2], H⟩ : St)) h18) ?_
 refine yr 5 ⟨L30 ++ L36, [B2], H⟩ ?_
 refine Bw (congrArg (fun q0 => (⟨L10 ++ [(74, vb q0)], [B2], H⟩ : St)) (show (p0.C_ != 0) = ((decide (p0.A_ < 0)) || ((decide (p0.A_ > 15)) || ((decide (p0.B_ < 0)) || ((decide (p0.B_ > 15)) || ((decide (p0.C_ < 0)) || ((decide (p0.C_ > 15)) || (if (!r4) = true then ((p0.A_ != 0) || (if (!r5) = true then ((p0.B_ != 0) || ((!r6) && (p0.C_ != 0))) else ((!r6) && (p0.C_ != 0)))) else (if (!r5) = true then ((p0.B_ != 0) || ((!r6) && (p0.C_ != 0))) else ((!r6) && (p0.C_ != 0)))))))))) by simp [h8, h9, h10, h11, h12, h13, h14, h15, h16, h17, h18])) ?_
 exact ye
 refine Bd (congrArg (fun q => (⟨L30 ++ [(68, vb q), (69, vb q)], [B2], H⟩ : St)) h18) ?_
 refine yr 5 ⟨L30 ++ L34, [B2], H⟩ ?_
 refine Bw (congrArg (fun q0 => (⟨L10 ++ [(74, vb q0)], [B2], H⟩ : St)) (show false = ((decide (p0.A_ < 0)) || ((decide (p0.A_ > 15)) || ((decide (p0.B_ < 0)) || ((decide (p0.B_ > 15)) || ((decide (p0.C_ < 0)) || ((decide (p0.C_ > 15)) || (if (!r4) = true then ((p0.A_ != 0) || (if (!r5) = true then ((p0.B_ != 0) || ((!r6) && (p0.C_ != 0))) else ((!r6) && (p0.C_ != 0)))) else (if (!r5) = true then ((p0.B_ != 0) || ((!r6) && (p0.C_ != 0))) else ((!r6) && (p0.C_ != 0)))))))))) by simp [h8, h9, h10, h11, h12, h13, h14, h15, h16, h17, h18])) ?_
 exact ye
 refine Bd (congrArg (fun q => (⟨L23 ++ L19 ++ [(59, vb q), (60, vb q)], [B2], H⟩ : St)) h16) ?_
 refine yr 9 ⟨L23 ++ L26 ++ [E7, E8], [B2], H⟩ ?_
 rcases Ax (!r6) with h19 | h19
 refine Bd (congrArg (fun q => (⟨L23 ++ L26 ++ [(68, vb q), (69, vb q)], [B2], H⟩ : St)) h19) ?_
 refine yr 5 ⟨L23 ++ L26 ++ L36, [B2], H⟩ ?_
 refine Bw (congrArg (fun q0 => (⟨L10 ++ [(74, vb q0)], [B2], H⟩ : St)) (show (p0.C_ != 0) = ((decide (p0.A_ < 0)) || ((decide (p0.A_ > 15)) || ((decide (p0.B_ < 0)) || ((decide (p0.B_ > 15)) || ((decide (p0.C_ < 0)) || ((decide (p0.C_ > 15)) || (if (!r4) = true then ((p0.A_ != 0) || (if (!r5) = true then ((p0.B_ != 0) || ((!r6) && (p0.C_ != 0))) else ((!r6) && (p0.C_ != 0)))) else (if (!r5) = true then ((p0.B_ != 0) || ((!r6) && (p0.C_ != 0))) else ((!r6) && (p0.C_ != 0)))))))))) by simp [h8, h9, h10, h11, h12, h13, h14, h15, h16, h19])) ?_
 exact ye
 refine Bd (congrArg (fun q => (⟨L23 ++ L26 ++ [(68, vb q), (69, vb q)], [B2], H⟩ : St)) h19) ?_
 refine yr 5 ⟨L23 ++ L26 ++ L34, [B2], H⟩ ?_
 refine Bw (congrArg (fun q0 => (⟨L10 ++ [(74, vb q0)], [B2], H⟩ : St)) (show false = ((decide (p0.A_ < 0)) || ((decide (p0.A_ > 15)) || ((decide (p0.B_ < 0)) || ((decide (p0.B_ > 15)) || ((decide (p0.C_ < 0)) || ((decide (p0.C_ > 15)) || (if (!r4) = true then ((p0.A_ != 0) || (if (!r5) = true then ((p0.B_ != 0) || ((!r6) && (p0.C_ != 0))) else ((!r6) && (p0.C_ != 0)))) else (if (!r5) = true then ((p0.B_ != 0) || ((!r6) && (p0.C_ != 0))) else ((!r6) && (p0.C_ != 0)))))))))) by simp [h8, h9, h10, h11, h12, h13, h14, h15, h16, h19])) ?_
 exact ye
 refine Bd (congrArg (fun q => (⟨L18 ++ [(50, vb q), (51, vb q)], [B2], H⟩ : St)) h14) ?_
 refine yr 9 ⟨L25 ++ L19 ++ [(59, vb (!r5)), (60, vb (!r5))], [B2], H⟩ ?_
 rcases Ax (!r5) with h20 | h20
 refine Bd (congrArg (fun q => (⟨L25 ++ L19 ++ [(59, vb q), (60, vb q)], [B2], H⟩ : St)) h20) ?_
 refine yr 6 ⟨L25 ++ L22 ++ [(63, vb (p0.B_ != 0)), (64, vb (p0.B_ != 0)), (65, vb (p0.B_ != 0)), (66, vb (p0.B_ != 0))], [B2], H⟩ ?_
 rcases Ax (p0.B_ != 0) with h21 | h21
 refine Bd (congrArg (fun q => (⟨L25 ++ L22 ++ [(63, vb q), (64, vb q), (65, vb q), (66, vb q)], [B2], H⟩ : St)) h21) ?_
 refine yr 8 ⟨L25 ++ L22 ++ [(63, vT), (64, vT)] ++ L27, [B2], H⟩ ?_
 refine Bw (congrArg (fun q0 => (⟨L10 ++ [(74, vb q0)], [B2], H⟩ : St)) (show true = ((decide (p0.A_ < 0)) || ((decide (p0.A_ > 15)) || ((decide (p0.B_ < 0)) || ((decide (p0.B_ > 15)) || ((decide (p0.C_ < 0)) || ((decide (p0.C_ > 15)) || (if (!r4) = true then ((p0.A_ != 0) || (if (!r5) = true then ((p0.B_ != 0) || ((!r6) && (p0.C_ != 0))) else ((!r6) && (p0.C_ != 0)))) else (if (!r5) = true then ((p0.B_ != 0) || ((!r6) && (p0.C_ != 0))) else ((!r6) && (p0.C_ != 0)))))))))) by simp [h8, h9, h10, h11, h12, h13, h14, h20, h21])) ?_
 exact ye
 refine Bd (congrArg (fun q => (⟨L25 ++ L22 ++ [(63, vb q), (64, vb q), (65, vb q), (66, vb q)], [B2], H⟩ : St)) h21) ?_
 refine yr 3 ⟨L31 ++ [E7, E8], [B2], H⟩ ?_
 rcases Ax (!r6) with h22 | h22
 refine Bd (congrArg (fun q => (⟨L31 ++ [(68, vb q), (69, vb q)], [B2], H⟩ : St)) h22) ?_
 refine yr 5 ⟨L31 ++ L36, [B2], H⟩ ?_
 refine Bw (congrArg (fun q0 => (⟨L10 ++ [(74, vb q0)], [B2], H⟩ : St)) (show (p0.C_ != 0) = ((decide (p0.A_ < 0)) || ((decide (p0.A_ > 15)) || ((decide (p0.B_ < 0)) || ((decide (p0.B_ > 15)) || ((decide (p0.C_ < 0)) || ((decide (p0.C_ > 15)) || (if (!r4) = true then ((p0.A_ != 0) || (if (!r5) = true then ((p0.B_ != 0) || ((!r6) && (p0.C_ != 0))) else ((!r6) && (p0.C_ != 0)))) else (if (!r5) = true then ((p0.B_ != 0) || ((!r6) && (p0.C_ != 0))) else ((!r6) && (p0.C_ != 0)))))))))) by simp [h8, h9, h10, h11, h12, h13, h14, h20, h21, h22])) ?_
 exact ye
 refine Bd (congrArg (fun q => (⟨L31 ++ [(68, vb q), (69, vb q)], [B2], H⟩ : St)) h22) ?_
 refine yr 5 ⟨L31 ++ L34, [B2], H⟩ ?_
 refine Bw (congrArg (fun q0 => (⟨L10 ++ [(74, vb q0)], [B2], H⟩ : St)) (show false = ((decide (p0.A_ < 0)) || ((decide (p0.A_ > 15)) || ((decide (p0.B_ < 0)) || ((decide (p0.B_ > 15)) || ((decide (p0.C_ < 0)) || ((decide (p0.C_ > 15)) || (if (!r4) = true then ((p0.A_ != 0) || (if (!r5) = true then ((p0.B_ != 0) || ((!r6) && (p0.C_ != 0))) else ((!r6) && (p0.C_ != 0)))) else (if (!r5) = true then ((p0.B_ != 0) || ((!r6) && (p0.C_ != 0))) else ((!r6) && (p0.C_ != 0)))))))))) by simp [h8, h9, h10, h11, h12, h13, h14, h20, h21, h22])) ?_
 exact ye
 refine Bd (congrArg (fun q => (⟨L25 ++ L19 ++ [(59, vb q), (60, vb q)], [B2], H⟩ : St)) h20) ?_
 refine yr 9 ⟨L25 ++ L26 ++ [E7, E8], [B2], H⟩ ?_
 rcases Ax (!r6) with h23 | h23
 refine Bd (congrArg (fun q => (⟨L25 ++ L26 ++ [(68, vb q), (69, vb q)], [B2], H⟩ : St)) h23) ?_
 refine yr 5 ⟨L25 ++ L26 ++ L36, [B2], H⟩ ?_
 refine Bw (congrArg (fun q0 => (⟨L10 ++ [(74, vb q0)], [B2], H⟩ : St)) (show (p0.C_ != 0) = ((decide (p0.A_ < 0)) || ((decide (p0.A_ > 15)) || ((decide (p0.B_ < 0)) || ((decide (p0.B_ > 15)) || ((decide (p0.C_ < 0)) || ((decide (p0.C_ > 15)) || (if (!r4) = true then ((p0.A_ != 0) || (if (!r5) = true then ((p0.B_ != 0) || ((!r6) && (p0.C_ != 0))) else ((!r6) && (p0.C_ != 0)))) else (if (!r5) = true then ((p0.B_ != 0) || ((!r6) && (p0.C_ != 0))) else ((!r6) && (p0.C_ != 0)))))))))) by simp [h8, h9, h10, h11, h12, h13, h14, h20, h23])) ?_
 exact ye
 refine Bd (congrArg (fun q => (⟨L25 ++ L26 ++ [(68, vb q), (69, vb q)], [B2], H⟩ : St)) h23) ?_
 refine yr 5 ⟨L25 ++ L26 ++ L34, [B2], H⟩ ?_
 refine Bw (congrArg (fun q0 => (⟨L10 ++ [(74, vb q0)], [B2], H⟩ : St)) (show false = ((decide (p0.A_ < 0)) || ((decide (p0.A_ > 15)) || ((decide (p0.B_ < 0)) || ((decide (p0.B_ > 15)) || ((decide (p0.C_ < 0)) || ((decide (p0.C_ > 15)) || (if (!r4) = true then ((p0.A_ != 0) || (if (!r5) = true then ((p0.B_ != 0) || ((!r6) && (p0.C_ != 0))) else ((!r6) && (p0.C_ != 0)))) else (if (!r5) = true then ((p0.B_ != 0) || ((!r6) && (p0.C_ != 0))) else ((!r6) && (p0.C_ != 0)))))))))) by simp [h8, h9, h10, h11, h12, h13, h14, h20, h23])) ?_
 exact ye
 rcases Ae hF with ⟨h24, hF⟩ | ⟨h24, hF⟩
 refine yT h24 S41 ?_
 refine ysg ⟨[(2, vi 20)], [], H⟩ ?_
 refine Au ?_
 obtain e0 := Am hF
 subst e0
 exact yp (vi 20)
 refine yF h24 ⟨L10, [B2], H⟩ ?_
 refine Ao ?_
 refine ysg ⟨L10 ++ [E9, (8, vi 0)], [B2], H⟩ ?_
 refine Ag ?_
 refine ysg ⟨L24, [B2], H⟩ ?_
 refine Bt ?_
 refine Ag ?_
 refine ysg ⟨L24 ++ [(76, vb (r1 == 1))], [B2], H⟩ ?_
 refine As (α := (Bool)) (fun x => (⟨L24 ++ [(76, vb x)], [B2], H⟩ : St)) (fun x => Fw p0 r1 x = some ra) ?_ ?_
 rintro j25 hF
 replace hF : Fw p0 r1 j25 = some ra := hF
 unfold Fw at hF
 refine As (α := (Int × Int)) (fun x => (⟨[E1, (7, vi x.1), (8, vi x.2)], [B2], H⟩ : St)) (fun x => Fp p0 x.1 x.2 = some ra) ?_ ?_
 rintro ⟨j26, j27⟩ hF
 replace hF : Fp p0 j26 j27 = some ra := hF
 let L32 : List EN := [E1, (7, vi j26), (8, vi j27), (85, vl 1 4), (86, vi p0.Imm_), (87, vi j26)]
 unfold Fp at hF
 refine Ag ?_
 refine yso ⟨[(94, vb ((decide (p0.Imm_ < j26)) || (decide (p0.Imm_ > j27))))], [], H⟩ ?_ ?_
 refine yr 5 ⟨L32 ++ [(88, vb (decide (p0.Imm_ < j26))), (89, vb (decide (p0.Imm_ < j26)))], [B2], H⟩ ?_
 rcases Ax (decide (p0.Imm_ < j26)) with h28 | h28
 refine Bd (congrArg (fun q => (⟨L32 ++ [(88, vb q), (89, vb q)], [B2], H⟩ : St)) h28) ?_
 refine yr 5 ⟨L32 ++ [(88, vT), (89, vT), (90, vN), (91, vN), (92, vN), (93, vN), (94, vT)], [B2], H⟩ ?_
 refine Bw (congrArg (fun q0 => (⟨[(94, vb q0)], [], H⟩ : St)) (show true = ((decide (p0.Imm_ < j26)) || (decide (p0.Imm_ > j27))) by simp [h28])) ?_
 exact ye
 refine Bd (congrArg (fun q => (⟨L32 ++ [(88, vb q), (89, vb q)], [B2], H⟩ : St)) h28) ?_
 refine yr 5 ⟨L32 ++ [(88, vF), (89, vF), (90, vl 1 4), (91, vi p0.Imm_), (92, vi j27), (93, vb (decide (p0.Imm_ > j27))), (94, vb (decide (p0.Imm_ > j27)))], [B2], H⟩ ?_
 refine Bw (congrArg (fun q0 => (⟨[(94, vb q0)], [], H⟩ : St)) (show (decide (p0.Imm_ > j27)) = ((decide (p0.Imm_ < j26)) || (decide (p0.Imm_ > j27))) by simp [h28])) ?_
 exact ye
 rcases Ae hF with ⟨h29, hF⟩ | ⟨h29, hF⟩
 refine yT h29 S41 ?_
 refine ysg ⟨[(2, vi 20)], [], H⟩ ?_
 refine Au ?_
 obtain e0 := Am hF
 subst e0
 exact yp (vi 20)
 refine yF h29 S41 ?_
 refine Ao ?_
 refine ysg ⟨[(2, vi 0)], [], H⟩ ?_
 refine Au ?_
 obtain e0 := Am hF
 subst e0
 exact yp (vi 0)
 rcases Ae hF with ⟨h30, hF⟩ | ⟨h30, hF⟩
 refine yT h30 S39 ?_
 refine yg ⟨[E1, (7, vi (-32768)), (8, vi 32767)], [B2], H⟩ ?_
 exact ⟨(-32768, 32767), hF, (by kernel_rfl)⟩
 refine yF h30 ⟨L24, [B2], H⟩ ?_
 refine Ag ?_
 refine ysg ⟨L24 ++ [(79, vb (r1 == 2))], [B2], H⟩ ?_
 refine As (α := (Bool)) (fun x => (⟨L24 ++ [(79, vb x)], [B2], H⟩ : St)) (fun x => Fu p0 r1 x = some ra) ?_ ?_
 rintro j31 hF
 replace hF : Fu p0 r1 j31 = some ra := hF
 unfold Fu at hF
 refine As (α := (Int × Int)) (fun x => (⟨[E1, (7, vi x.1), (8, vi x.2)], [B2], H⟩ : St)) (fun x => Fs p0 x.1 x.2 = some ra) ?_ ?_
 rintro ⟨j32, j33⟩ hF
 replace hF : Fs p0 j32 j33 = some ra := hF
 unfold Fs at hF
 exact ⟨(j32, j33), hF, (by kernel_rfl)⟩
 rcases Ae hF with ⟨h34, hF⟩ | ⟨h34, hF⟩
 refine yT h34 ⟨[E1, E9], [B2], H⟩ ?_
 refine yg ⟨[E1, E9, (8, vi 65535)], [B2], H⟩ ?_
 exact ⟨(0, 65535), hF, (by kernel_rfl)⟩
 refine yF h34 ⟨L24, [B2], H⟩ ?_
 refine ysg ⟨[E1, E9, (8, vi 0), (83, vb (r1 == 7))], [B2], H⟩ ?_
 refine As (α := (Int × Int)) (fun x => (⟨[E1, (7, vi x.1), (8, vi x.2)], [B2], H⟩ : St)) (fun x => Ft p0 x.1 x.2 = some ra) ?_ ?_
 rintro ⟨j35, j36⟩ hF
 replace hF : Ft p0 j35 j36 = some ra := hF
 unfold Ft at hF
 exact ⟨(j35, j36), hF, (by kernel_rfl)⟩
 rcases Ae hF with ⟨h37, hF⟩ | ⟨h37, hF⟩
 refine yT h37 S39 ?_
 refine yg ⟨[E1, (7, vi (-8388608)), (8, vi 8388607)], [B2], H⟩ ?_
 exact ⟨(-8388608, 8388607), hF, (by kernel_rfl)⟩
 refine yF h37 ⟨[E1, E9, (8, vi 0)], [B2], H⟩ ?_
 refine Ao ?_
 exact ⟨(0, 0), hF, (by kernel_rfl)⟩
 rcases Ae hF with ⟨h38, hF⟩ | ⟨h38, hF⟩
 refine yT h38 ⟨L24 ++ [(79, vb (r1 == 2))], [B2], H⟩ ?_
 refine Ao ?_
 exact ⟨(r1 == 2), hF, (by kernel_rfl)⟩
 refine yF h38 ⟨L24, [B2], H⟩ ?_
 refine ysg ⟨L24 ++ [(79, vb (r1 == 4))], [B2], H⟩ ?_
 refine As (α := (Bool)) (fun x => (⟨L24 ++ [(79, vb x)], [B2], H⟩ : St)) (fun x => Fv p0 r1 x = some ra) ?_ ?_
 rintro j39 hF
 replace hF : Fv p0 r1 j39 = some ra := hF
 unfold Fv at hF
 exact ⟨j39, hF, (by kernel_rfl)⟩
 rcases Ae hF with ⟨h40, hF⟩ | ⟨h40, hF⟩
 refine yT h40 ⟨L24 ++ [(79, vb (r1 == 4))], [B2], H⟩ ?_
 refine Ao ?_
 exact ⟨(r1 == 4), hF, (by kernel_rfl)⟩
 refine yF h40 ⟨L24, [B2], H⟩ ?_
 refine yg ⟨L24 ++ [(79, vb (r1 == 8))], [B2], H⟩ ?_
 exact ⟨(r1 == 8), hF, (by kernel_rfl)⟩
 rcases Ae hF with ⟨h41, hF⟩ | ⟨h41, hF⟩
 refine yT h41 ⟨L24 ++ [(76, vb (r1 == 1))], [B2], H⟩ ?_
 refine Ao ?_
 exact ⟨(r1 == 1), hF, (by kernel_rfl)⟩
 refine yF h41 ⟨L24, [B2], H⟩ ?_
 refine yg ⟨L24 ++ [(76, vb (r1 == 3))], [B2], H⟩ ?_
 exact ⟨(r1 == 3), hF, (by kernel_rfl)⟩
noncomputable def Dq  (p0 : T_ref02_Instr) : Option (Int × Int) :=
  Af (Ic p0) fun r1 =>
  if (r1 != 0) = true then (some (0, r1))
  else (Af (Dw p0.Op_) fun r4 =>
  if (r4 == 7) = true then (some ((IntKind.wrap .u32 (IntKind.wrap .i64 ((IntKind.wrap .i64 (p0.Op_ * 16777216)) + (Int.tmod (IntKind.wrap .i64 (p0.Imm_ + 16777216)) 16777216)))), 0))
  else (some ((IntKind.wrap .u32 (IntKind.wrap .i64 ((IntKind.wrap .i64 ((IntKind.wrap .i64 ((IntKind.wrap .i64 ((IntKind.wrap .i64 (p0.Op_ * 16777216)) + (IntKind.wrap .i64 (p0.A_ * 1048576)))) + (IntKind.wrap .i64 (p0.B_ * 65536)))) + (Int.tmod (IntKind.wrap .i64 (p0.Imm_ + 65536)) 65536))) + p0.C_))), 0)))
theorem Qy (H : Ah) {p0 : T_ref02_Instr} {ra : Int} {rb : Int} (hF : Dq p0 = some (ra, rb)) : evS X 53 [.agg (Az p0)] H = some (.tup [.one .top (.int .u32 ra), .one .top (.int .i64 rb)], H) := by
 let E1 : EN := (1, vl 1 0)
 let B2 : EB := (1, (Az p0))
 let E3 : EN := (6, .agg (Az p0))
 let L4 : List EN := [E1, (5, vi (IntKind.wrap .i64 (p0.Op_ * 16777216)))]
 let L5 : List EN := L4 ++ [(14, vl 1 0), (15, vi p0.Op_)]
 refine yf Try.func53 true ⟨[(0, .agg (Az p0))], [], H⟩ ?_
 unfold Dq at hF
 refine ysg ⟨[E1], [B2], H⟩ ?_
 refine Ag ?_
 refine Ag ?_
 obtain ⟨r1, c2, hF⟩ := Ab hF
 refine Aj ⟨[E1, (4, vi r1)], [B2], H⟩ ?_ ?_
 refine yr 1 ⟨[E1, E3], [B2], H⟩ ?_
 refine Ai ⟨[E1, E3, (7, vi r1)], [B2], H⟩ (yc (some 7) true false (⟨[E1, E3], [B2], H⟩ : St) (Y5 H c2)) ?_
 refine yr 1 ⟨[E1, (4, vi r1), E3, (7, vi r1)], [B2], H⟩ ?_
 exact ye
 refine ysg ⟨[E1, (4, vi r1), (9, vb (r1 != 0))], [B2], H⟩ ?_
 rcases Ae hF with ⟨h3, hF⟩ | ⟨h3, hF⟩
 refine yT h3 ⟨[(4, vi r1)], [], H⟩ ?_
 refine ysg ⟨[(2, vu 0), (3, vi r1)], [], H⟩ ?_
 refine Au ?_
 obtain ⟨e0, e1⟩ := Ar hF
 subst e0
 subst e1
 exact yp (.tup [vu 0, vi r1])
 refine yF h3 ⟨[E1], [B2], H⟩ ?_
 refine Ao ?_
 refine ysg ⟨L4, [B2], H⟩ ?_
 refine Ag ?_
 refine Ag ?_
 obtain ⟨r4, c5, hF⟩ := Ab hF
 refine Aj ⟨L4 ++ [(17, vb (r4 == 7))], [B2], H⟩ ?_ ?_
 refine yr 2 ⟨L5, [B2], H⟩ ?_
 refine Ai ⟨L5 ++ [(16, vi r4)], [B2], H⟩ (yc (some 16) true false (⟨L5, [B2], H⟩ : St) (Oy H c5)) ?_
 refine yr 1 ⟨L5 ++ [(16, vi r4), (17, vb (r4 == 7))], [B2], H⟩ ?_
 exact ye
 rcases Ae hF with ⟨h6, hF⟩ | ⟨h6, hF⟩
 refine yT h6 ⟨L4, [B2], H⟩ ?_
 refine ysg ⟨[(2, vu (IntKind.wrap .u32 (IntKind.wrap .i64 ((IntKind.wrap .i64 (p0.Op_ * 16777216)) + (Int.tmod (IntKind.wrap .i64 (p0.Imm_ + 16777216)) 16777216))))), (3, vi 0)], [], H⟩ ?_
 refine Au ?_
 obtain ⟨e0, e1⟩ := Ar hF
 subst e0
 subst e1
 exact yp (.tup [vu (IntKind.wrap .u32 (IntKind.wrap .i64 ((IntKind.wrap .i64 (p0.Op_ * 16777216)) + (Int.tmod (IntKind.wrap .i64 (p0.Imm_ + 16777216)) 16777216)))), vi 0])
 refine yF h6 ⟨L4, [B2], H⟩ ?_
 refine Ao ?_
 refine ysg ⟨[(2, vu (IntKind.wrap .u32 (IntKind.wrap .i64 ((IntKind.wrap .i64 ((IntKind.wrap .i64 ((IntKind.wrap .i64 ((IntKind.wrap .i64 (p0.Op_ * 16777216)) + (IntKind.wrap .i64 (p0.A_ * 1048576)))) + (IntKind.wrap .i64 (p0.B_ * 65536)))) + (Int.tmod (IntKind.wrap .i64 (p0.Imm_ + 65536)) 65536))) + p0.C_)))), (3, vi 0)], [], H⟩ ?_
 refine Au ?_
 obtain ⟨e0, e1⟩ := Ar hF
 subst e0
 subst e1
 exact yp (.tup [vu (IntKind.wrap .u32 (IntKind.wrap .i64 ((IntKind.wrap .i64 ((IntKind.wrap .i64 ((IntKind.wrap .i64 ((IntKind.wrap .i64 (p0.Op_ * 16777216)) + (IntKind.wrap .i64 (p0.A_ * 1048576)))) + (IntKind.wrap .i64 (p0.B_ * 65536)))) + (Int.tmod (IntKind.wrap .i64 (p0.Imm_ + 65536)) 65536))) + p0.C_))), vi 0])
noncomputable def Ld  (p0 : T_memory_Layout) : Option ((Arr 5 Int)) :=
  some (Ij [p0.Code_, p0.Tables_, p0.Data_, p0.Heap_, p0.Stack_] : Arr 5 Int)
theorem Pj (H : Ah) {p0 : T_memory_Layout} {ra : (Arr 5 Int)} (hF : Ld p0 = some ra) : evS X 93 [.agg (Ba p0)] H = some (.agg (arM .u32 5 ra), H) := by
 refine yf Try.func93 true ⟨[(0, .agg (Ba p0))], [], H⟩ ?_
 unfold Ld at hF
 refine ysg ⟨[(1, vl 1 0), (2, vl 2 0)], [(1, (Ba p0)), (2, (List.replicate 5 (.top, .int .u32 0)))], H⟩ ?_
 refine ysg ⟨[(2, vl 2 0)], [(2, (Ba p0))], H⟩ ?_
 refine Au ?_
 obtain e0 := Am hF
 subst e0
 exact yp (.agg (Ba p0))
noncomputable def D9 (p0 : (Arr 5 Int)) (a1 : Int) : Option ((Int) ⊕ (Unit ⊕ Unit)) :=
  if (decide (a1 < 5)) = true then (Af (ga p0 a1) fun v3 =>
  Af (if ((Int.tmod v3 4) != 0) = true then (some true) else (Af (ga p0 a1) fun v6 =>
  if (decide (v6 > 1048576)) = true then (some true) else (if (decide (a1 > 0)) = true then (Af (ga p0 a1) fun v10 =>
  Af (ga p0 (IntKind.wrap .i64 (a1 - 1))) fun v12 =>
  some (decide (v10 < v12))) else (some false)))) fun w14 =>
  if w14 = true then (some (Sum.inr (Sum.inr ())))
  else (some (Sum.inl (IntKind.wrap .i64 (a1 + 1)))))
  else (some (Sum.inr (Sum.inl ())))
noncomputable def Lo  (p0 : (Arr 5 Int)) : Option (Bool) :=
  Af (Ik (fun (x : (Int)) => D9 p0 x) 0) (fU (fun (_ : Unit) =>
  some true) (fun (_ : Unit) =>
  some false))
theorem Y6 (H : Ah) {p0 : (Arr 5 Int)} {ra : Bool} (hF : Lo p0 = some ra) : evS X 92 [.agg (arM .u32 5 p0)] H = some (.one .top (.bool ra), H) := by
 let E1 : EN := (1, vl 1 0)
 let B2 : EB := (1, (arM .u32 5 p0))
 let L16 : List EN := [(23, vN), (24, vN)]
 let L17 : List EN := [(18, vT), (19, vT), (20, vN)]
 let L18 : List EN := L16 ++ [(25, vN), (26, vN)]
 let L21 : List EN := L18 ++ [(27, vN), (28, vN)]
 let L27 : List EN := L21 ++ [(29, vN), (30, vN)]
 let S30 : St := ⟨[], [], H⟩
 let S31 : St := ⟨[(2, vF)], [], H⟩
 refine yf Try.func92 true ⟨[(0, .agg (arM .u32 5 p0))], [], H⟩ ?_
 unfold Lo at hF
 refine ysg ⟨[E1], [B2], H⟩ ?_
 refine Ag ?_
 refine ysg ⟨[E1, (3, vi 0)], [B2], H⟩ ?_
 refine Bt ?_
 obtain ⟨r17, hL18, hF⟩ := Ab hF
 refine Qn (fun (x : (Int)) => (⟨[E1, (3, vi x)], [B2], H⟩ : St)) (Sum.elim (fun (y : Unit) => ((.exit 0, S30) : Ex × St)) (fun (y : Unit) => ((.ret, S31) : Ex × St))) hL18 (by kernel_rfl) ?_ ?_
 rintro a1 o hF
 replace hF : D9 p0 a1 = some o := hF
 let E4 : EN := (15, vl 1 (0 + Int.toNat a1))
 let E7 : EN := (21, vb (decide (a1 > 0)))
 let E8 : EN := (28, vl 1 (0 + Int.toNat (IntKind.wrap .i64 (a1 - 1))))
 let L10 : List EN := [E1, (3, vi a1)]
 let L11 : List EN := L10 ++ [(8, vi a1), (9, vl 1 (0 + Int.toNat a1))]
 unfold D9 at hF
 refine Ag ?_
 refine ysg ⟨L10 ++ [(5, vb (decide (a1 < 5)))], [B2], H⟩ ?_
 rcases Ae hF with ⟨h2, hF⟩ | ⟨h2, hF⟩
 refine yT h2 ⟨L10, [B2], H⟩ ?_
 refine Ao ?_
 refine Ag ?_
 refine Bt ?_
 refine Ag ?_
 obtain ⟨v3, h4, hF⟩ := Ab hF
 let E3 : EN := (12, vb ((Int.tmod v3 4) != 0))
 let L12 : List EN := L11 ++ [(10, vu v3), (11, vu (Int.tmod v3 4))]
 let L13 : List EN := L12 ++ [(12, vF), (13, vF), (14, vi a1)]
 let L19 : List EN := L12 ++ [(12, vT), (13, vT), (14, vN)]
 let L20 : List EN := L19 ++ [(15, vN), (16, vN), (17, vN)]
 let L24 : List EN := L20 ++ L17 ++ [(21, vN), (22, vN)]
 obtain ⟨w14, hB15, hF⟩ := Ab hF
 refine Bs (.take 0 (.take 1 (.take 2 (.take 3 (.take 4 (.take 5 (.take 6 (.take 7 (.take 8 (.take 9 (.take 10 (.take 11 (.take 12 (.take 13 (.take 14 (.take 15 (.take 16 (.take 17 (.take 18 (.take 19 (.take 20 (.take 21 (.take 22 (.take 23 (.take 24 .done))))))))))))))))))))))))) (by kernel_rfl) (⟨L10 ++ [(32, vb w14)], [B2], H⟩ : St) ?_ ?_
 refine ydt ⟨L10 ++ [(8, vi a1)], [B2], H⟩ ?_
 refine Aq ⟨L11, [B2], H⟩ (Jv (X := X) (⟨L10 ++ [(8, vi a1)], [B2], H⟩ : St) 72 35 5 h4 1 0 (some 9) (by kernel_rfl) (by kernel_rfl) (by kernel_rfl) (by kernel_rfl)) ?_
 refine Aq ⟨L11 ++ [(10, vu v3)], [B2], H⟩ (Tu (X := X) (⟨L11, [B2], H⟩ : St) 35 5 h4 1 0 (arM .u32 5 p0) (fun q => .int .u32 q) (some 10) (by kernel_rfl) (by kernel_rfl) (by kernel_rfl) (by kernel_rfl) (by kernel_rfl) (by kernel_rfl)) ?_
 refine ydk 3 ⟨L12 ++ [E3, (13, vb ((Int.tmod v3 4) != 0))], [B2], H⟩ ?_
 rcases Ae hB15 with ⟨h5, hB15⟩ | ⟨h5, hB15⟩
 refine Fi (congrArg (fun q => (⟨L12 ++ [(12, vb q), (13, vb q)], [B2], H⟩ : St)) h5) ?_
 refine ydk 19 ⟨L24 ++ L27 ++ [(31, vN), (32, vT)], [B2], H⟩ ?_
 cases hB15
 exact yde
 refine Fi (congrArg (fun q => (⟨L12 ++ [(12, vb q), (13, vb q)], [B2], H⟩ : St)) h5) ?_
 refine ydt ⟨L13, [B2], H⟩ ?_
 obtain ⟨v6, h7, hB15⟩ := Ab hB15
 let E5 : EN := (17, vb (decide (v6 > 1048576)))
 let E6 : EN := (18, vb (decide (v6 > 1048576)))
 let L14 : List EN := L13 ++ [E4, (16, vu v6)]
 let L15 : List EN := L14 ++ [(17, vF), (18, vF), (19, vF), (20, vi a1)]
 let L22 : List EN := L15 ++ [(21, vT), (22, vT), (23, vi a1)]
 let L23 : List EN := L22 ++ [(24, vl 1 (0 + Int.toNat a1))]
 let L25 : List EN := L14 ++ [(17, vT)] ++ L17 ++ [(21, vN), (22, vN)]
 let L26 : List EN := L15 ++ [(21, vF), (22, vF)]
 refine Aq ⟨L13 ++ [E4], [B2], H⟩ (Jv (X := X) (⟨L13, [B2], H⟩ : St) 72 35 5 h7 1 0 (some 15) (by kernel_rfl) (by kernel_rfl) (by kernel_rfl) (by kernel_rfl)) ?_
 refine Aq ⟨L14, [B2], H⟩ (Tu (X := X) (⟨L13 ++ [E4], [B2], H⟩ : St) 35 5 h7 1 0 (arM .u32 5 p0) (fun q => .int .u32 q) (some 16) (by kernel_rfl) (by kernel_rfl) (by kernel_rfl) (by kernel_rfl) (by kernel_rfl) (by kernel_rfl)) ?_
 refine ydk 3 ⟨L14 ++ [E5, E6, (19, vb (decide (v6 > 1048576)))], [B2], H⟩ ?_
 rcases Ae hB15 with ⟨h8, hB15⟩ | ⟨h8, hB15⟩
 refine Fi (congrArg (fun q => (⟨L14 ++ [(17, vb q), (18, vb q), (19, vb q)], [B2], H⟩ : St)) h8) ?_
 refine ydk 13 ⟨L25 ++ L27 ++ [(31, vN), (32, vT)], [B2], H⟩ ?_
 cases hB15
 exact yde
 refine Fi (congrArg (fun q => (⟨L14 ++ [(17, vb q), (18, vb q), (19, vb q)], [B2], H⟩ : St)) h8) ?_
 refine ydk 3 ⟨L15 ++ [E7, (22, vb (decide (a1 > 0)))], [B2], H⟩ ?_
 rcases Ae hB15 with ⟨h9, hB15⟩ | ⟨h9, hB15⟩
 refine Fi (congrArg (fun q => (⟨L15 ++ [(21, vb q), (22, vb q)], [B2], H⟩ : St)) h9) ?_
 refine ydt ⟨L22, [B2], H⟩ ?_
 obtain ⟨v10, h11, hB15⟩ := Ab hB15
 let L28 : List EN := L23 ++ [(25, vu v10), (26, vi a1), (27, vi (IntKind.wrap .i64 (a1 - 1)))]
 refine Aq ⟨L23, [B2], H⟩ (Jv (X := X) (⟨L22, [B2], H⟩ : St) 72 35 5 h11 1 0 (some 24) (by kernel_rfl) (by kernel_rfl) (by kernel_rfl) (by kernel_rfl)) ?_
 refine Aq ⟨L23 ++ [(25, vu v10)], [B2], H⟩ (Tu (X := X) (⟨L23, [B2], H⟩ : St) 35 5 h11 1 0 (arM .u32 5 p0) (fun q => .int .u32 q) (some 25) (by kernel_rfl) (by kernel_rfl) (by kernel_rfl) (by kernel_rfl) (by kernel_rfl) (by kernel_rfl)) ?_
 refine ydk 2 ⟨L28, [B2], H⟩ ?_
 obtain ⟨v12, h13, hB15⟩ := Ab hB15
 let E9 : EN := (31, vb (decide (v10 < v12)))
 let L29 : List EN := L28 ++ [E8, (29, vu v12), (30, vb (decide (v10 < v12)))]
 refine Aq ⟨L28 ++ [E8], [B2], H⟩ (Jv (X := X) (⟨L28, [B2], H⟩ : St) 72 35 5 h13 1 0 (some 28) (by kernel_rfl) (by kernel_rfl) (by kernel_rfl) (by kernel_rfl)) ?_
 refine Aq ⟨L28 ++ [E8, (29, vu v12)], [B2], H⟩ (Tu (X := X) (⟨L28 ++ [E8], [B2], H⟩ : St) 35 5 h13 1 0 (arM .u32 5 p0) (fun q => .int .u32 q) (some 29) (by kernel_rfl) (by kernel_rfl) (by kernel_rfl) (by kernel_rfl) (by kernel_rfl) (by kernel_rfl)) ?_
 refine ydk 3 ⟨L29 ++ [E9, (32, vb (decide (v10 < v12)))], [B2], H⟩ ?_
 cases hB15
 exact yde
 refine Fi (congrArg (fun q => (⟨L15 ++ [(21, vb q), (22, vb q)], [B2], H⟩ : St)) h9) ?_
 refine ydk 10 ⟨L26 ++ L27 ++ [(31, vF), (32, vF)], [B2], H⟩ ?_
 cases hB15
 exact yde
 rcases Ae hF with ⟨h16, hF⟩ | ⟨h16, hF⟩
 refine yT h16 S30 ?_
 refine ysg S31 ?_
 refine Au ?_
 cases hF
 exact ⟨_, rfl, (by kernel_rfl)⟩
 refine yF h16 ⟨L10, [B2], H⟩ ?_
 refine Ao ?_
 refine yg ⟨[E1, (3, vi (IntKind.wrap .i64 (a1 + 1)))], [B2], H⟩ ?_
 cases hF
 exact ⟨_, rfl, (by kernel_rfl)⟩
 refine yF h2 S30 ?_
 refine Ph ?_
 cases hF
 exact ⟨_, rfl, (by kernel_rfl)⟩
 rcases Ug hF with ⟨r17', rfl, hF⟩ | ⟨r17', rfl, hF⟩
 refine bT (i := 0) (s := S30) (by kernel_rfl) ?_
 refine Qm ?_
 refine ysg ⟨[(2, vT)], [], H⟩ ?_
 refine Au ?_
 obtain e0 := Am hF
 subst e0
 exact yp (vT)
 refine oC (s := S31) (by kernel_rfl) ?_
 obtain e0 := Am hF
 subst e0
 exact yp (vF)
noncomputable def Mx  (p0 : T_law04_Case) : Option (Bool) :=
  Af (Ld p0.L_) fun r1 =>
  Af (Lo r1) fun r3 =>
  some (r3 && ((decide (p0.L_.Stack_ ≤ 4096)) && ((decide ((p0.Words_.length : Int) ≤ 1024)) && (decide ((p0.Input_.length : Int) ≤ 100)))))
theorem cF (H : Ah) {p0 : T_law04_Case} {ra : Bool} (hF : Mx p0 = some ra) : evS X 54 [.agg (Dj p0)] H = some (.one .top (.bool ra), H) := by
 let E1 : EN := (1, vl 1 0)
 let B2 : EB := (1, (Dj p0))
 let E3 : EN := (4, .agg [(.top, .int .u32 p0.L_.Code_), (.top, .int .u32 p0.L_.Tables_), (.top, .int .u32 p0.L_.Data_), (.top, .int .u32 p0.L_.Heap_), (.top, .int .u32 p0.L_.Stack_)])
 let E4 : EN := (22, vi (p0.Input_.length : Int))
 let E5 : EN := (16, vi (p0.Words_.length : Int))
 let L8 : List EN := [(6, vT), (7, vT), (8, vl 1 0), (9, vl 1 4), (10, vu p0.L_.Stack_)]
 let L9 : List EN := [(11, vT), (12, vT), (13, vT), (14, vl 1 9), (15, .one (.own 0) (.sl 1 (List.map (eI .u32) p0.Words_)))]
 let L11 : List EN := [(17, vT), (18, vT), (19, vT), (20, vl 1 26), (21, .one (.own 0) (.sl 1 (List.map (eI .i32) p0.Input_)))]
 let L12 : List EN := [(18, vF), (19, vF), (20, vN), (21, vN), (22, vN), (23, vN), (24, vF)]
 let L13 : List EN := [(12, vF), (13, vF), (14, vN), (15, vN), (16, vN), (17, vN)] ++ L12
 let S14 : St := ⟨[E1, (3, vl 1 0), E3], [B2], H⟩
 refine yf Try.func54 true ⟨[(0, .agg (Dj p0))], [], H⟩ ?_
 unfold Mx at hF
 refine ysg ⟨[E1], [B2], H⟩ ?_
 refine Ag ?_
 obtain ⟨r1, c2, hF⟩ := Ab hF
 let L6 : List EN := [(3, vl 1 0), E3, (5, .agg (arM .u32 5 r1))]
 let L7 : List EN := [E1] ++ L6
 let L10 : List EN := L7 ++ L8 ++ L9 ++ [E5]
 obtain ⟨r3, c4, hF⟩ := Ab hF
 refine Aj ⟨[(2, vb (r3 && ((decide (p0.L_.Stack_ ≤ 4096)) && ((decide ((p0.Words_.length : Int) ≤ 1024)) && (decide ((p0.Input_.length : Int) ≤ 100))))))], [], H⟩ ?_ ?_
 refine yr 2 S14 ?_
 refine Ai ⟨L7, [B2], H⟩ (yc (some 5) true false S14 (Pj H c2)) ?_
 refine Ai ⟨L7 ++ [(6, vb r3)], [B2], H⟩ (yc (some 6) true false (⟨L7, [B2], H⟩ : St) (Y6 H c4)) ?_
 refine yr 1 ⟨L7 ++ [(6, vb r3), (7, vb r3)], [B2], H⟩ ?_
 rcases Ax r3 with h5 | h5
 refine Bd (congrArg (fun q => (⟨L7 ++ [(6, vb q), (7, vb q)], [B2], H⟩ : St)) h5) ?_
 refine yr 6 ⟨L7 ++ L8 ++ [(11, vb (decide (p0.L_.Stack_ ≤ 4096))), (12, vb (decide (p0.L_.Stack_ ≤ 4096))), (13, vb (decide (p0.L_.Stack_ ≤ 4096)))], [B2], H⟩ ?_
 rcases Ax (decide (p0.L_.Stack_ ≤ 4096)) with h6 | h6
 refine Bd (congrArg (fun q => (⟨L7 ++ L8 ++ [(11, vb q), (12, vb q), (13, vb q)], [B2], H⟩ : St)) h6) ?_
 refine yr 2 ⟨L7 ++ L8 ++ L9, [B2], H⟩ ?_
 refine Ai ⟨L10, [B2], H⟩ (yl (⟨L7 ++ L8 ++ L9, [B2], H⟩ : St) p0.Words_ (eI .u32) (some 16)) ?_
 refine yr 3 ⟨L10 ++ [(17, vb (decide ((p0.Words_.length : Int) ≤ 1024))), (18, vb (decide ((p0.Words_.length : Int) ≤ 1024))), (19, vb (decide ((p0.Words_.length : Int) ≤ 1024)))], [B2], H⟩ ?_
 rcases Ax (decide ((p0.Words_.length : Int) ≤ 1024)) with h7 | h7
 refine Bd (congrArg (fun q => (⟨L10 ++ [(17, vb q), (18, vb q), (19, vb q)], [B2], H⟩ : St)) h7) ?_
 refine yr 2 ⟨L10 ++ L11, [B2], H⟩ ?_
 refine Ai ⟨L10 ++ L11 ++ [E4], [B2], H⟩ (yl (⟨L10 ++ L11, [B2], H⟩ : St) p0.Input_ (eI .i32) (some 22)) ?_
 refine yr 3 ⟨[E1, (2, vb (decide ((p0.Input_.length : Int) ≤ 100)))] ++ L6 ++ L8 ++ L9 ++ [E5] ++ L11 ++ [E4, (23, vb (decide ((p0.Input_.length : Int) ≤ 100))), (24, vb (decide ((p0.Input_.length : Int) ≤ 100)))], [B2], H⟩ ?_
 refine Bw (congrArg (fun q0 => (⟨[(2, vb q0)], [], H⟩ : St)) (show (decide ((p0.Input_.length : Int) ≤ 100)) = (r3 && ((decide (p0.L_.Stack_ ≤ 4096)) && ((decide ((p0.Words_.length : Int) ≤ 1024)) && (decide ((p0.Input_.length : Int) ≤ 100))))) by simp [h5, h6, h7])) ?_
 exact ye
 refine Bd (congrArg (fun q => (⟨L10 ++ [(17, vb q), (18, vb q), (19, vb q)], [B2], H⟩ : St)) h7) ?_
 refine yr 6 ⟨[E1, (2, vF)] ++ L6 ++ L8 ++ L9 ++ [E5, (17, vF)] ++ L12, [B2], H⟩ ?_
 refine Bw (congrArg (fun q0 => (⟨[(2, vb q0)], [], H⟩ : St)) (show false = (r3 && ((decide (p0.L_.Stack_ ≤ 4096)) && ((decide ((p0.Words_.length : Int) ≤ 1024)) && (decide ((p0.Input_.length : Int) ≤ 100))))) by simp [h5, h6, h7])) ?_
 exact ye
 refine Bd (congrArg (fun q => (⟨L7 ++ L8 ++ [(11, vb q), (12, vb q), (13, vb q)], [B2], H⟩ : St)) h6) ?_
 refine yr 12 ⟨[E1, (2, vF)] ++ L6 ++ L8 ++ [(11, vF)] ++ L13, [B2], H⟩ ?_
 refine Bw (congrArg (fun q0 => (⟨[(2, vb q0)], [], H⟩ : St)) (show false = (r3 && ((decide (p0.L_.Stack_ ≤ 4096)) && ((decide ((p0.Words_.length : Int) ≤ 1024)) && (decide ((p0.Input_.length : Int) ≤ 100))))) by simp [h5, h6])) ?_
 exact ye
 refine Bd (congrArg (fun q => (⟨L7 ++ [(6, vb q), (7, vb q)], [B2], H⟩ : St)) h5) ?_
 refine yr 18 ⟨[E1, (2, vF)] ++ L6 ++ [(6, vF), (7, vF), (8, vN), (9, vN), (10, vN), (11, vN)] ++ L13, [B2], H⟩ ?_
 refine Bw (congrArg (fun q0 => (⟨[(2, vb q0)], [], H⟩ : St)) (show false = (r3 && ((decide (p0.L_.Stack_ ≤ 4096)) && ((decide ((p0.Words_.length : Int) ≤ 1024)) && (decide ((p0.Input_.length : Int) ≤ 100))))) by simp [h5])) ?_
 exact ye
 refine Au ?_
 obtain e0 := Am hF
 subst e0
 exact yp (vb (r3 && ((decide (p0.L_.Stack_ ≤ 4096)) && ((decide ((p0.Words_.length : Int) ≤ 1024)) && (decide ((p0.Input_.length : Int) ≤ 100))))))
noncomputable def Od  (p0 : (Arr 5 Int)) : Option (T_ref03_Mem) :=
  Af (mks 4 (IntKind.wrap .u32 (Int.tdiv (p0.g 4) 4)) (IntKind.wrap .u32 (Int.tdiv (p0.g 4) 4)) 0) fun v1 =>
  some (T_ref03_Mem.mk p0 v1)
theorem cG (H : Ah) {p0 : (Arr 5 Int)} {ra : T_ref03_Mem} (hF : Od p0 = some ra) : evS X 79 [.agg (arM .u32 5 p0)] H = some (.agg (Ac ra), H) := by
 let B1 : EB := (1, (arM .u32 5 p0))
 let B2 : EB := (2, (List.replicate 5 (.top, .int .u32 0) ++ [((.own 1), .sl 1 (List.map (eI .u32) ([] : List Int)))]))
 let L4 : List EN := [(1, vl 1 0), (2, vl 2 0), (3, .agg (arM .u32 5 p0))]
 let L5 : List EN := L4 ++ [(4, vl 1 4), (5, vu (p0.g 4)), (6, vu (IntKind.wrap .u32 (Int.tdiv (p0.g 4) 4)))]
 refine yf Try.func79 true ⟨[(0, .agg (arM .u32 5 p0))], [], H⟩ ?_
 unfold Od at hF
 refine ysg ⟨[(1, vl 1 0), (2, vl 2 0)], [B1, B2], H⟩ ?_
 refine Ag ?_
 obtain ⟨v1, h2, hF⟩ := Ab hF
 let B3 : EB := (2, (arM .u32 5 p0 ++ [((.own 1), .sl 1 (List.map (eI .u32) v1))]))
 refine Bs (.take 0 (.take 1 (.take 2 (.take 3 (.last 4 (.take 5 (.last 6 .done))))))) (by kernel_rfl) (⟨[(2, vl 2 0)], [B3], H⟩ : St) ?_ ?_
 refine ydk 4 ⟨L5, [B1, B2], H⟩ ?_
 refine Br ⟨L5 ++ [(7, .one (.own 1) (.sl 1 (List.map (eI .u32) v1)))], [B1, B2], H⟩ (dZ (X := X) (⟨L5, [B1, B2], H⟩ : St) 4 h2 42 35 1 [(.top, .int .u32 0)] (eI .u32) 0 (.u32) (.u32) (some 7) (by kernel_rfl) (by kernel_rfl) (by kernel_rfl) (by kernel_rfl) (by kernel_rfl) (by kernel_rfl) (by kernel_rfl) (by kernel_rfl) (by kernel_rfl) (by kernel_rfl)) ?_
 refine ydt ⟨L5 ++ [(7, .one .top .junk), (8, .agg (arM .u32 5 p0 ++ [((.own 1), .sl 1 (List.map (eI .u32) v1))]))], [B1, B2], H⟩ ?_
 refine ydl ⟨L5 ++ [(7, .one .top .junk), (8, .agg (arM .u32 5 p0 ++ [(.top, .junk)]))], [B1, B3], H⟩ ?_
 exact yde
 refine Au ?_
 obtain e0 := Am hF
 subst e0
 exact yp (.agg (arM .u32 5 p0 ++ [((.own 1), .sl 1 (List.map (eI .u32) v1))]))
theorem cH (H : Ah) {p0 : T_cpu_Setup} {p1 : (List Int)} {ra : Ptr} {Hr : Ah} (hF : N7 H p0 p1 = some (Hr, ra)) : evS X 89 [.agg (Gc p0), .one (.own 0) (.sl 1 (List.map (eI .i32) p1))] H = some (.one .top (Ptr.av ra), Hr) := by
 let E1 : EN := (1, .one (.own 0) (.sl 1 (List.map (eI .i32) p1)))
 let B2 : EB := (2, (Gc p0))
 let E3 : EN := (5, vl 2 0)
 let E4 : EN := (6, vu p0.Entry_)
 let E5 : EN := (9, .one (.own 0) (.sl 1 (List.map (eI .i32) p1)))
 let E6 : EN := (10, .one .top .junk)
 let E7 : EN := (11, .agg (List.replicate 16 (.top, .int .u32 0) ++ [(.top, .int .u32 p0.Entry_), (.top, .int .u32 0), (.top, .int .u32 0)] ++ List.replicate 4 (.top, .int .i64 0) ++ [(.top, .junk), (.top, .int .u32 p0.Entry_), (.top, .int .u32 p0.Vector_), (.top, .int .u32 p0.Guard_), (.top, .int .u32 p0.Limit_), (.top, .junk)]))
 let E8 : EN := (7, .agg (Gc p0))
 let L9 : List EN := [E1, (2, vl 2 0)]
 let L10 : List EN := L9 ++ [E3, E4, E8]
 let L11 : List EN := L10 ++ [(8, .one .top .junk), E5]
 refine yf Try.func89 false ⟨[(0, .agg (Gc p0)), E1], [], H⟩ ?_
 unfold N7 at hF
 refine ysg ⟨L9, [B2], H⟩ ?_
 refine Ag ?_
 obtain ⟨v1, h2, hF⟩ := Ab hF
 obtain ⟨i4, h6, hF⟩ := Cl hF
 obtain ⟨H3, h5, hF⟩ := Cl hF
 refine Bs (.take 0 (.take 1 (.take 2 (.take 4 (.last 3 (.last 5 (.take 6 (.last 7 (.take 8 .done))))))))) (by kernel_rfl) (⟨[(4, vo i4 0)], [], H3⟩ : St) ?_ ?_
 refine ydk 4 ⟨L10 ++ [E5], [B2], H⟩ ?_
 refine ydl ⟨L10 ++ [(8, .one (.own 1) (.sl 1 (List.map (eI .i32) ([] : List Int)))), E5], [B2], H⟩ ?_
 refine Br ⟨L11 ++ [(10, .one (.own 1) (.sl 1 (List.map (eI .i32) v1)))], [B2], H⟩ (Gu (X := X) (⟨L11, [B2], H⟩ : St) 4 h2 48 48 21 1 0 [(.top, .int .i32 0)] (.own 0) (eI .i32) 0 (some 10) (by kernel_rfl) (by kernel_rfl) (by kernel_rfl) (by kernel_rfl) (by kernel_rfl) (by kernel_rfl) (by kernel_rfl) (by kernel_rfl) (by kernel_rfl) (fun _ => rfl) (by kernel_rfl)) ?_
 refine ydt ⟨L11 ++ [E6, (11, .agg (List.replicate 16 (.top, .int .u32 0) ++ [(.top, .int .u32 p0.Entry_), (.top, .int .u32 0), (.top, .int .u32 0)] ++ List.replicate 4 (.top, .int .i64 0) ++ [((.own 1), .sl 2 (List.map Ad ([] : List T_api_Event))), (.top, .int .u32 p0.Entry_), (.top, .int .u32 p0.Vector_), (.top, .int .u32 p0.Guard_), (.top, .int .u32 p0.Limit_), ((.own 1), .sl 1 (List.map (eI .i32) v1))]))], [B2], H⟩ ?_
 refine ydl ⟨L11 ++ [E6, E7, (12, vo H.length 0)], [B2], (H ++ [(List.replicate 16 (.top, .int .u32 0) ++ [(.top, .int .u32 p0.Entry_), (.top, .int .u32 0), (.top, .int .u32 0)] ++ List.replicate 4 (.top, .int .i64 0) ++ [((.own 1), .sl 2 (List.map Ad ([] : List T_api_Event))), (.top, .int .u32 p0.Entry_), (.top, .int .u32 p0.Vector_), (.top, .int .u32 p0.Guard_), (.top, .int .u32 p0.Limit_), ((.own 1), .sl 1 (List.map (eI .i32) v1))])])⟩ ?_
 refine Fi (fX (fun q u => (⟨L11 ++ [E6, E7, (12, vo q 0)], [B2], u⟩ : St)) h6 h5) ?_
 refine ydt ⟨L9 ++ [(4, vo i4 0), E3, E4, E8, (8, .one .top .junk), E5, E6, E7, (12, vo i4 0)], [B2], H3⟩ ?_
 exact yde
 refine Au ?_
 obtain ⟨e0, e1⟩ := Ar hF
 subst e0
 subst e1
 exact yi (vo i4 0)
theorem Rp (H : Ah) {p0 : Ptr} {p1 : Int} {p2 : (List Int)} {ra : Int} {Hr : Ah} (hF : Cv H p0 p1 p2 = some (Hr, ra)) : evS X 56 [.one .top (Ptr.av p0), .one .top (.int .u32 p1), .one (.own 0) (.sl 1 (List.map (eI .u32) p2))] H = some (.one .top (.int .i64 ra), Hr) := by
 let E2 : EN := (10, vu p1)
 let E3 : EN := (2, .one (.own 0) (.sl 1 (List.map (eI .u32) p2)))
 let E4 : EN := (19, vi (p2.length : Int))
 let L15 : Ptr → List EN := fun z0 => [(0, vp z0), (1, vu p1), E3]
 refine yf Try.func56 false ⟨(L15 p0), [], H⟩ ?_
 unfold Cv at hF
 refine ysg ⟨(L15 p0), [], H⟩ ?_ (h := (by generalize p0 = qp0; cases qp0 <;> kernel_rfl))
 refine Ag ?_
 refine ysg ⟨(L15 p0) ++ [(9, vb ((Int.tmod p1 4) != 0))], [], H⟩ ?_ (h := (by generalize p0 = qp0; cases qp0 <;> kernel_rfl))
 rcases Ae hF with ⟨h1, hF⟩ | ⟨h1, hF⟩
 refine yT h1 ⟨[], [], H⟩ ?_
 refine ysg ⟨[(6, vi 30)], [], H⟩ ?_
 refine Au ?_
 obtain ⟨e0, e1⟩ := Ar hF
 subst e0
 subst e1
 exact yi (vi 30)
 refine yF h1 ⟨(L15 p0), [], H⟩ ?_
 refine Ao ?_
 refine Ag ?_
 refine Ag ?_
 obtain ⟨i2, o3, h4, hF⟩ := Bu hF
 let L9 : List EN := [(0, vo i2 o3), (1, vu p1), E3]
 let L10 : List EN := L9 ++ [E2, (11, vo i2 o3), (12, vo i2 o3), (13, vo i2 o3), (14, vo i2 (o3 + 4))]
 let L12 : List EN := L9 ++ [(32, vo i2 o3), (33, vo i2 o3), (34, vo i2 (o3 + 5))]
 obtain ⟨x5, V6, hF⟩ := Ab hF
 replace V6 := Bb V6
 let E5 : EN := (25, vu x5.layout_.Stack_)
 let E6 : EN := (35, .one .top (.at_ (.obj i2 (o3 + 5)) 0 ((List.map (eI .u32) x5.words_).length)))
 let E7 : EN := (38, .one .top (.at_ (.obj i2 (o3 + 5)) (Int.toNat (IntKind.wrap .u32 (Int.tdiv p1 4))) ((List.map (eI .u32) x5.words_).length - Int.toNat (IntKind.wrap .u32 (Int.tdiv p1 4)))))
 let E8 : EN := (40, vi (((min p2.length (x5.words_.length - (Int.toNat (IntKind.wrap .u32 (Int.tdiv p1 4)))) : Nat)) : Int))
 let L11 : List EN := L10 ++ [(15, vu x5.layout_.Stack_)]
 let L13 : List EN := L12 ++ [E6, (36, vu p1), (37, vu (IntKind.wrap .u32 (Int.tdiv p1 4)))]
 let L14 : List EN := L11 ++ [(16, vF), (17, vF), (18, .one (.own 0) (.sl 1 (List.map (eI .u32) p2)))]
 let L16 : List EN := L13 ++ [E7, (39, .one (.own 0) (.sl 1 (List.map (eI .u32) p2)))]
 let L17 : List EN := L14 ++ [E4, (20, .one .top (.int .u64 (IntKind.wrap .u64 (p2.length : Int)))), (21, vo i2 o3), (22, vo i2 o3), (23, vo i2 o3), (24, vo i2 (o3 + 4))]
 refine Aj ⟨L9 ++ [(31, vb ((decide (p1 > x5.layout_.Stack_)) || (decide ((IntKind.wrap .u64 (p2.length : Int)) > (IntKind.wrap .u64 (Int.tdiv (IntKind.wrap .u64 (IntKind.wrap .u32 (x5.layout_.Stack_ - p1))) 4))))))], [], H⟩ ?_ ?_
 refine yr 2 ⟨(L15 p0) ++ [E2, (11, vp p0)], [], H⟩ ?_ (h := (by generalize p0 = qp0; cases qp0 <;> kernel_rfl))
 refine Bd (congrArg (fun q => (⟨[(0, vp q), (1, vu p1), E3, E2, (11, vp q)], [], H⟩ : St)) h4) ?_
 refine yr 1 ⟨L9 ++ [E2, (11, vo i2 o3), (12, vo i2 o3)], [], H⟩ ?_
 refine yr 2 ⟨L10, [], H⟩ ?_
 refine Ai ⟨L11, [], H⟩ (yd (X := X) (⟨L10, [], H⟩ : St) 35 V6 4 1 false (vu x5.layout_.Stack_) (some 15)) ?_
 refine yr 2 ⟨L11 ++ [(16, vb (decide (p1 > x5.layout_.Stack_))), (17, vb (decide (p1 > x5.layout_.Stack_)))], [], H⟩ ?_
 rcases Ax (decide (p1 > x5.layout_.Stack_)) with h7 | h7
 refine Bd (congrArg (fun q => (⟨L11 ++ [(16, vb q), (17, vb q)], [], H⟩ : St)) h7) ?_
 refine yr 14 ⟨L11 ++ [(16, vT), (17, vT), (18, vN), (19, vN), (20, vN), (21, vN), (22, vN), (23, vN), (24, vN), (25, vN), (26, vN), (27, vN), (28, vN), (29, vN), (30, vN), (31, vT)], [], H⟩ ?_
 refine Bw (congrArg (fun q0 => (⟨L9 ++ [(31, vb q0)], [], H⟩ : St)) (show true = ((decide (p1 > x5.layout_.Stack_)) || (decide ((IntKind.wrap .u64 (p2.length : Int)) > (IntKind.wrap .u64 (Int.tdiv (IntKind.wrap .u64 (IntKind.wrap .u32 (x5.layout_.Stack_ - p1))) 4))))) by simp [h7])) ?_
 exact ye
 refine Bd (congrArg (fun q => (⟨L11 ++ [(16, vb q), (17, vb q)], [], H⟩ : St)) h7) ?_
 refine yr 1 ⟨L14, [], H⟩ ?_
 refine Ai ⟨L14 ++ [E4], [], H⟩ (yl (⟨L14, [], H⟩ : St) p2 (eI .u32) (some 19)) ?_
 refine yr 5 ⟨L17, [], H⟩ ?_
 refine Ai ⟨L17 ++ [E5], [], H⟩ (yd (X := X) (⟨L17, [], H⟩ : St) 35 V6 4 1 false (vu x5.layout_.Stack_) (some 25)) ?_
 refine yr 6 ⟨L17 ++ [E5, (26, vu p1), (27, vu (IntKind.wrap .u32 (x5.layout_.Stack_ - p1))), (28, .one .top (.int .u64 (IntKind.wrap .u64 (IntKind.wrap .u32 (x5.layout_.Stack_ - p1))))), (29, .one .top (.int .u64 (IntKind.wrap .u64 (Int.tdiv (IntKind.wrap .u64 (IntKind.wrap .u32 (x5.layout_.Stack_ - p1))) 4)))), (30, vb (decide ((IntKind.wrap .u64 (p2.length : Int)) > (IntKind.wrap .u64 (Int.tdiv (IntKind.wrap .u64 (IntKind.wrap .u32 (x5.layout_.Stack_ - p1))) 4))))), (31, vb (decide ((IntKind.wrap .u64 (p2.length : Int)) > (IntKind.wrap .u64 (Int.tdiv (IntKind.wrap .u64 (IntKind.wrap .u32 (x5.layout_.Stack_ - p1))) 4)))))], [], H⟩ ?_
 refine Bw (congrArg (fun q0 => (⟨L9 ++ [(31, vb q0)], [], H⟩ : St)) (show (decide ((IntKind.wrap .u64 (p2.length : Int)) > (IntKind.wrap .u64 (Int.tdiv (IntKind.wrap .u64 (IntKind.wrap .u32 (x5.layout_.Stack_ - p1))) 4)))) = ((decide (p1 > x5.layout_.Stack_)) || (decide ((IntKind.wrap .u64 (p2.length : Int)) > (IntKind.wrap .u64 (Int.tdiv (IntKind.wrap .u64 (IntKind.wrap .u32 (x5.layout_.Stack_ - p1))) 4))))) by simp [h7])) ?_
 exact ye
 rcases Ae hF with ⟨h8, hF⟩ | ⟨h8, hF⟩
 refine yT h8 ⟨[], [], H⟩ ?_
 refine ysg ⟨[(6, vi 31)], [], H⟩ ?_
 refine Au ?_
 obtain ⟨e0, e1⟩ := Ar hF
 subst e0
 subst e1
 exact yi (vi 31)
 refine yF h8 ⟨L9, [], H⟩ ?_
 refine Ao ?_
 refine Ag ?_
 obtain ⟨v10, h9, hF⟩ := Ab hF
 obtain ⟨v11, h12, hF⟩ := Cl hF
 let W1 : Ah := Dt H i2 o3 [(.top, .int .u32 x5.layout_.Code_), (.top, .int .u32 x5.layout_.Tables_), (.top, .int .u32 x5.layout_.Data_), (.top, .int .u32 x5.layout_.Heap_), (.top, .int .u32 x5.layout_.Stack_), ((.own 1), .sl 1 (List.map (eI .u32) v11))]
 obtain ⟨H13, h14, hF⟩ := Cl hF
 have V15 : Ct H13 i2 o3 6 = some (D3 (T_memory_Mem.mk x5.layout_ v11)) := by rw [← h14]; exact Bv V6 rfl
 refine Aj ⟨[], [], H13⟩ ?_ ?_
 refine yr 3 ⟨L12, [], H⟩ ?_
 refine Ai ⟨L12 ++ [E6], [], H⟩ (fZ (X := X) (⟨L12, [], H⟩ : St) 42 V6 5 0 1 (List.map (eI .u32) x5.words_) (some 35) (by kernel_rfl) (by kernel_rfl) (by kernel_rfl) (by kernel_rfl) (by kernel_rfl) (by kernel_rfl)) ?_
 refine yr 2 ⟨L13, [], H⟩ ?_
 refine Ai ⟨L13 ++ [E7], [], H⟩ (iK (X := X) (⟨L13, [], H⟩ : St) 42 35 1 h9 (eI .u32) (.obj i2 (o3 + 5)) 0 (some (.tmp 37)) (some 38) (by kernel_rfl) (by kernel_rfl) (by kernel_rfl) (Yx (k := 5) (c := ((.own 1), .sl 1 (List.map (eI .u32) x5.words_))) V6 (by kernel_rfl) (by kernel_rfl)) (show (opnd X.P (⟨L13, [], H⟩ : St) 0 (.tmp 37)).bind T2 = some (IntKind.wrap .u32 (Int.tdiv p1 4)) by kernel_rfl) (by kernel_rfl)) ?_
 refine yr 1 ⟨L16, [], H⟩ ?_
 refine Ai ⟨L16 ++ [E8], [], W1⟩ (mF (X := X) (lc := []) (h2 := W1) (⟨L16, [], H⟩ : St) 42 35 V6 5 0 1 (eI .u32) (.own 0) x5.words_ p2 (Int.toNat (IntKind.wrap .u32 (Int.tdiv p1 4))) h12 (some 40) (mE h9) (by kernel_rfl) (by kernel_rfl) (by kernel_rfl) (fun _ => rfl) (fun _ => rfl) (by kernel_rfl) (by kernel_rfl) (Cd V6 (Nat.le_of_ble_eq_true rfl)) (by kernel_rfl)) ?_
 refine Bd (congrArg (fun q => (⟨L16 ++ [E8], [], q⟩ : St)) h14) ?_
 exact ye
 refine ysg ⟨[(6, vi 0)], [], H13⟩ ?_
 refine Au ?_
 obtain ⟨e0, e1⟩ := Ar hF
 subst e0
 subst e1
 exact yi (vi 0)
noncomputable def Cw (p2 : (List Int)) (p1 : Int) (a5 : (List Int)) (a6 : Int) : Option (((List Int) × Int) ⊕ (((List Int)))) :=
  if (decide (a6 < (p2.length : Int))) = true then (Af (gi p2 a6) fun x8 =>
  Af (gi a5 (IntKind.wrap .i64 (p1 + a6))) fun x10 =>
  Af (si a5 (IntKind.wrap .i64 (p1 + a6)) x8) fun v12 =>
  some (Sum.inl (v12, (IntKind.wrap .i64 (a6 + 1)))))
  else (some (Sum.inr a5))
noncomputable def Dr  (p0 : T_ref03_Mem) (p1 : Int) (p2 : (List Int)) : Option (T_ref03_Mem) :=
  Af (mks 4 (p0.W_.length : Int) (p0.W_.length : Int) 0) fun v1 =>
  bnd (cpy v1 0 p0.W_) fun v3 =>
  Af (Ik (fun (x : ((List Int) × Int)) => Cw p2 p1 x.1 x.2) (v3, 0)) (fun b16 =>
  some (T_ref03_Mem.mk p0.Ends_ b16))
theorem Zq (H : Ah) {p0 : T_ref03_Mem} {p1 : Int} {p2 : (List Int)} {ra : T_ref03_Mem} (hF : Dr p0 p1 p2 = some ra) : evS X 94 [.agg (Ac p0), .one .top (.int .i64 p1), .one (.own 0) (.sl 1 (List.map (eI .u32) p2))] H = some (.agg (Ac ra), H) := by
 let E1 : EN := (2, .one (.own 0) (.sl 1 (List.map (eI .u32) p2)))
 let B2 : EB := (3, (Ac p0))
 let B3 : EB := (6, (List.replicate 5 (.top, .int .u32 0) ++ [((.own 1), .sl 1 (List.map (eI .u32) ([] : List Int)))]))
 let E5 : EN := (11, vi (p0.W_.length : Int))
 let E6 : EN := (10, .one (.own 0) (.sl 1 (List.map (eI .u32) p0.W_)))
 let E9 : EN := (15, .one (.own 0) (.sl 1 (List.map (eI .u32) p0.W_)))
 let E11 : EN := (19, vi (p2.length : Int))
 let L16 : List EN := [(3, vl 3 0), (6, vl 6 0)]
 let L17 : List EN := [(1, vi p1), E1] ++ L16
 let L20 : List EN := L17 ++ [(9, vl 3 5), E6]
 refine yf Try.func94 true ⟨[(0, .agg (Ac p0)), (1, vi p1), E1], [], H⟩ ?_
 unfold Dr at hF
 refine ysg ⟨L17, [B2, B3], H⟩ ?_
 refine Ag ?_
 obtain ⟨v1, h2, hF⟩ := Ab hF
 let E4 : EN := (7, .one (.own 1) (.sl 1 (List.map (eI .u32) v1)))
 let E8 : EN := (13, .one .top (.at_ (.tmp 7) 0 ((List.map (eI .u32) v1).length)))
 refine Aj ⟨L17 ++ [E4], [B2, B3], H⟩ ?_ ?_
 refine yr 2 ⟨L20, [B2, B3], H⟩ ?_
 refine Ai ⟨L20 ++ [E5], [B2, B3], H⟩ (yl (⟨L20, [B2, B3], H⟩ : St) p0.W_ (eI .u32) (some 11)) ?_
 refine Ai ⟨L20 ++ [E5, (12, .one (.own 1) (.sl 1 (List.map (eI .u32) v1)))], [B2, B3], H⟩ (dZ (X := X) (⟨L20 ++ [E5], [B2, B3], H⟩ : St) 4 h2 42 35 1 [(.top, .int .u32 0)] (eI .u32) 0 (.i64) (.i64) (some 12) (by kernel_rfl) (by kernel_rfl) (by kernel_rfl) (by kernel_rfl) (by kernel_rfl) (by kernel_rfl) (by kernel_rfl) (by kernel_rfl) (by kernel_rfl) (by kernel_rfl)) ?_
 refine yr 1 ⟨L17 ++ [E4, (9, vl 3 5), E6, E5, (12, .one .top .junk)], [B2, B3], H⟩ ?_
 exact ye
 refine Ag ?_
 obtain ⟨v3, h4, hF⟩ := Cl hF
 let E7 : EN := (7, .one (.own 1) (.sl 1 (List.map (eI .u32) v3)))
 refine Aj ⟨L17 ++ [E7], [B2, B3], H⟩ ?_ ?_
 refine yr 3 ⟨L17 ++ [E4, E8, (14, vl 3 5), E9], [B2, B3], H⟩ ?_
 refine Ai ⟨L17 ++ [E7, E8, (14, vl 3 5), E9, (16, vi (((min p0.W_.length (v1.length - 0) : Nat)) : Int))], [B2, B3], H⟩ (gA (X := X) (⟨L17 ++ [E4, E8, (14, vl 3 5), E9], [B2, B3], H⟩ : St) 42 35 0 1 (eI .u32) 7 (.own 0) v1 p0.W_ 0 h4 (some 16) ⟨true, []⟩ (Nat.zero_le _) (by kernel_rfl) (by kernel_rfl) (by kernel_rfl) (fun _ => rfl) (fun _ => rfl) (by kernel_rfl) (by kernel_rfl)) ?_
 exact ye
 refine Ag ?_
 refine ysg ⟨L17 ++ [E7, (8, vi 0)], [B2, B3], H⟩ ?_
 refine Bt ?_
 obtain ⟨r14, hL15, hF⟩ := Ab hF
 refine Qn (fun (x : ((List Int) × Int)) => (⟨L17 ++ [(7, .one (.own 1) (.sl 1 (List.map (eI .u32) x.1))), (8, vi x.2)], [B2, B3], H⟩ : St)) (fun (y : ((List Int))) => ((.exit 0, (⟨L16 ++ [(7, .one (.own 1) (.sl 1 (List.map (eI .u32) y)))], [B2, B3], H⟩ : St)) : Ex × St)) hL15 (by kernel_rfl) ?_ ?_
 rintro ⟨a5, a6⟩ o hF
 replace hF : Cw p2 p1 a5 a6 = some o := hF
 let E10 : EN := (20, vb (decide (a6 < (p2.length : Int))))
 let E14 : EN := (31, .one .top (.el (.tmp 7) (Int.toNat (IntKind.wrap .i64 (p1 + a6))) 0))
 let E15 : EN := (7, .one (.own 1) (.sl 1 (List.map (eI .u32) a5)))
 let L18 : List EN := L17 ++ [E15, (8, vi a6)]
 let L19 : List EN := [(23, .one .top (.at_ (.tmp 7) 0 ((List.map (eI .u32) a5).length))), (24, vi p1), (25, vi a6), (26, vi (IntKind.wrap .i64 (p1 + a6))), (27, .one (.own 0) (.sl 1 (List.map (eI .u32) p2))), (28, vi a6)]
 let L21 : List EN := L18 ++ [(17, vi a6), (18, .one (.own 0) (.sl 1 (List.map (eI .u32) p2)))]
 unfold Cw at hF
 refine Ag ?_
 refine yso ⟨L18 ++ [E10], [B2, B3], H⟩ ?_ ?_
 refine yr 2 ⟨L21, [B2, B3], H⟩ ?_
 refine Ai ⟨L21 ++ [E11], [B2, B3], H⟩ (yl (⟨L21, [B2, B3], H⟩ : St) p2 (eI .u32) (some 19)) ?_
 refine yr 1 ⟨L21 ++ [E11, E10], [B2, B3], H⟩ ?_
 exact ye
 rcases Ae hF with ⟨h7, hF⟩ | ⟨h7, hF⟩
 refine yT h7 ⟨L18, [B2, B3], H⟩ ?_
 refine Ao ?_
 refine Ag ?_
 refine Bt ?_
 obtain ⟨x8, h9, hF⟩ := Ab hF
 let E13 : EN := (29, .one .top (.rd (.own 0) (.own 0) [.int .u32 x8] 0))
 let L22 : List EN := L18 ++ L19 ++ [E13, (30, vu x8)]
 obtain ⟨x10, h11, hF⟩ := Ab hF
 obtain ⟨v12, h13, hF⟩ := Ab hF
 let E12 : EN := (7, .one (.own 1) (.sl 1 (List.map (eI .u32) v12)))
 let L23 : List EN := L17 ++ [E12, (8, vi a6)] ++ L19 ++ [E13, (30, vu x8), E14]
 refine Aj ⟨L17 ++ [E12, (8, vi a6)], [B2, B3], H⟩ ?_ ?_
 refine yr 6 ⟨L18 ++ L19, [B2, B3], H⟩ ?_
 refine Ai ⟨L18 ++ L19 ++ [E13], [B2, B3], H⟩ (P5 (X := X) (⟨L18 ++ L19, [B2, B3], H⟩ : St) 42 35 1 h9 (eI .u32) (.own 0) (some 29) (by kernel_rfl) (by kernel_rfl) (by kernel_rfl) (by kernel_rfl)) ?_
 refine yr 1 ⟨L22, [B2, B3], H⟩ ?_
 refine Ai ⟨L22 ++ [E14], [B2, B3], H⟩ (bU (X := X) (⟨L22, [B2, B3], H⟩ : St) 42 35 1 h11 (eI .u32) (.tmp 7) 0 (List.map (eI .u32) a5).length 0 (some 31) (by kernel_rfl) (by kernel_rfl) (by kernel_rfl) (by kernel_rfl) rfl (List.length_map _) (by kernel_rfl)) ?_
 refine Ai ⟨L23, [B2, B3], H⟩ (bZ (X := X) (⟨L22 ++ [E14], [B2, B3], H⟩ : St) (⟨L23, [B2, B3], H⟩ : St) ⟨true, []⟩ 35 (.tmp 7) (Int.toNat (IntKind.wrap .i64 (p1 + a6))) 0 1 0 (List.map (eI .u32) a5) [.int .u32 x10] ((eI .u32) x8) (List.map (eI .u32) v12) 1 (vu x8) (by kernel_rfl) (by kernel_rfl) (by kernel_rfl) (by kernel_rfl) (by kernel_rfl) (by kernel_rfl) (iM h11) (by kernel_rfl) (by kernel_rfl) (bY h13) (by kernel_rfl) (by kernel_rfl)) ?_
 exact ye
 refine yg ⟨L17 ++ [E12, (8, vi (IntKind.wrap .i64 (a6 + 1)))], [B2, B3], H⟩ ?_
 cases hF
 exact ⟨_, rfl, (by kernel_rfl)⟩
 refine yF h7 ⟨L16 ++ [E15], [B2, B3], H⟩ ?_
 refine Ph ?_
 cases hF
 exact ⟨_, rfl, (by kernel_rfl)⟩
 obtain ⟨b16, hy⟩ : ∃ y, y = r14 := ⟨_, rfl⟩
 subst hy
 refine bT (i := 0) (s := (⟨L16 ++ [(7, .one (.own 1) (.sl 1 (List.map (eI .u32) b16)))], [B2, B3], H⟩ : St)) (by kernel_rfl) ?_
 refine Qm ?_
 refine ysg ⟨L16, [(3, (arM .u32 5 p0.Ends_ ++ [((.own 1), .sl 1 (List.map (eI .u32) b16))])), B3], H⟩ ?_
 refine ysg ⟨[(6, vl 6 0)], [(6, (arM .u32 5 p0.Ends_ ++ [((.own 1), .sl 1 (List.map (eI .u32) b16))]))], H⟩ ?_
 refine Au ?_
 obtain e0 := Am hF
 subst e0
 exact yp (.agg (arM .u32 5 p0.Ends_ ++ [((.own 1), .sl 1 (List.map (eI .u32) b16))]))
noncomputable def Ke  (p0 : T_ref03_Mem) (p1 : Int) (p2 : (List Int)) : Option (T_ref03_Mem × Int) :=
  if ((Int.tmod p1 4) != 0) = true then (some (p0, 30))
  else (if (decide ((IntKind.wrap .i64 ((IntKind.wrap .i64 (IntKind.wrap .u32 (Int.tdiv p1 4))) + (p2.length : Int))) > (p0.W_.length : Int))) = true then (some (p0, 31))
  else (Af (Dr p0 (IntKind.wrap .i64 (IntKind.wrap .u32 (Int.tdiv p1 4))) p2) fun r3 =>
  some (r3, 0)))
theorem Zr (H : Ah) {p0 : T_ref03_Mem} {p1 : Int} {p2 : (List Int)} {ra : T_ref03_Mem} {rb : Int} (hF : Ke p0 p1 p2 = some (ra, rb)) : evS X 57 [.agg (Ac p0), .one .top (.int .u32 p1), .one (.own 0) (.sl 1 (List.map (eI .u32) p2))] H = some (.tup [.agg (Ac ra), .one .top (.int .i64 rb)], H) := by
 let E1 : EN := (2, .one (.own 0) (.sl 1 (List.map (eI .u32) p2)))
 let B2 : EB := (3, (Ac p0))
 let B3 : EB := (6, (List.replicate 5 (.top, .int .u32 0) ++ [((.own 1), .sl 1 (List.map (eI .u32) ([] : List Int)))]))
 let E4 : EN := (6, vl 6 0)
 let E5 : EN := (21, vb (decide ((IntKind.wrap .i64 ((IntKind.wrap .i64 (IntKind.wrap .u32 (Int.tdiv p1 4))) + (p2.length : Int))) > (p0.W_.length : Int))))
 let E6 : EN := (16, vi (p2.length : Int))
 let E7 : EN := (20, vi (p0.W_.length : Int))
 let L9 : List EN := [(1, vu p1), E1, (3, vl 3 0), E4]
 let L10 : List EN := L9 ++ [(12, vu p1), (13, vu (IntKind.wrap .u32 (Int.tdiv p1 4))), (14, vi (IntKind.wrap .i64 (IntKind.wrap .u32 (Int.tdiv p1 4)))), (15, .one (.own 0) (.sl 1 (List.map (eI .u32) p2)))]
 let L11 : List EN := L10 ++ [E6, (17, vi (IntKind.wrap .i64 ((IntKind.wrap .i64 (IntKind.wrap .u32 (Int.tdiv p1 4))) + (p2.length : Int)))), (18, vl 3 5), (19, .one (.own 0) (.sl 1 (List.map (eI .u32) p0.W_)))]
 let L12 : List EN := [(23, .agg (Ac p0)), (24, vu p1), (25, vu (IntKind.wrap .u32 (Int.tdiv p1 4))), (26, vi (IntKind.wrap .i64 (IntKind.wrap .u32 (Int.tdiv p1 4)))), (27, .one (.own 0) (.sl 1 (List.map (eI .u32) p2)))]
 let S13 : St := ⟨[(3, vl 3 0), E4], [B2, B3], H⟩
 refine yf Try.func57 true ⟨[(0, .agg (Ac p0)), (1, vu p1), E1], [], H⟩ ?_
 unfold Ke at hF
 refine ysg ⟨L9, [B2, B3], H⟩ ?_
 refine Ag ?_
 refine ysg ⟨L9 ++ [(10, vb ((Int.tmod p1 4) != 0))], [B2, B3], H⟩ ?_
 rcases Ae hF with ⟨h1, hF⟩ | ⟨h1, hF⟩
 refine yT h1 S13 ?_
 refine ysg ⟨[E4, (7, vi 30)], [(6, (Ac p0))], H⟩ ?_
 refine Au ?_
 obtain ⟨e0, e1⟩ := Ar hF
 subst e0
 subst e1
 exact yp (.tup [.agg (Ac p0), vi 30])
 refine yF h1 ⟨L9, [B2, B3], H⟩ ?_
 refine Ao ?_
 refine Ag ?_
 refine yso ⟨L9 ++ [E5], [B2, B3], H⟩ ?_ ?_
 refine yr 4 ⟨L10, [B2, B3], H⟩ ?_
 refine Ai ⟨L10 ++ [E6], [B2, B3], H⟩ (yl (⟨L10, [B2, B3], H⟩ : St) p2 (eI .u32) (some 16)) ?_
 refine yr 3 ⟨L11, [B2, B3], H⟩ ?_
 refine Ai ⟨L11 ++ [E7], [B2, B3], H⟩ (yl (⟨L11, [B2, B3], H⟩ : St) p0.W_ (eI .u32) (some 20)) ?_
 refine yr 1 ⟨L11 ++ [E7, E5], [B2, B3], H⟩ ?_
 exact ye
 rcases Ae hF with ⟨h2, hF⟩ | ⟨h2, hF⟩
 refine yT h2 S13 ?_
 refine ysg ⟨[E4, (7, vi 31)], [(6, (Ac p0))], H⟩ ?_
 refine Au ?_
 obtain ⟨e0, e1⟩ := Ar hF
 subst e0
 subst e1
 exact yp (.tup [.agg (Ac p0), vi 31])
 refine yF h2 ⟨L9, [B2, B3], H⟩ ?_
 refine Ao ?_
 refine Ag ?_
 obtain ⟨r3, c4, hF⟩ := Ab hF
 let E8 : EN := (28, .agg (Ac r3))
 refine Aj ⟨[E4, (7, vi 0)], [(6, (Ac r3))], H⟩ ?_ ?_
 refine yr 5 ⟨L9 ++ L12, [B2, B3], H⟩ ?_
 refine Ai ⟨L9 ++ L12 ++ [E8], [B2, B3], H⟩ (yc (some 28) true false (⟨L9 ++ L12, [B2, B3], H⟩ : St) (Zq H c4)) ?_
 refine yr 2 ⟨L9 ++ [(7, vi 0)] ++ L12 ++ [E8], [B2, (6, (Ac r3))], H⟩ ?_
 exact ye
 refine Au ?_
 obtain ⟨e0, e1⟩ := Ar hF
 subst e0
 subst e1
 exact yp (.tup [.agg (Ac r3), vi 0])
noncomputable def Nk (H : Ah) (p0 : T_law04_Case) : Option (Ah × Ptr × Ptr × T_ref04_Cpu × T_ref03_Mem) :=
  Af (Ld p0.L_) fun r1 =>
  Af (Od r1) fun r3 =>
  Vt (Lc H p0.L_) fun H8 r5 r6 =>
  Cc (N7 H8 p0.S_ p0.Input_) fun H11 r9 =>
  if ((r6 != 0) || (r5.isNil || r9.isNil)) = true then (some (H11, Ptr.nil, Ptr.nil, (T_ref04_Cpu.mk p0.R_ p0.S_.Entry_ 0 0 0 0 0 0 ([] : List T_api_Event) p0.S_.Entry_ p0.S_.Vector_ p0.S_.Guard_ p0.S_.Limit_ p0.Input_), r3))
  else (Af (cut p0.Words_ 0 (if (r3.W_.length : Int) < (p0.Words_.length : Int) then (r3.W_.length : Int) else (p0.Words_.length : Int))) fun v15 =>
  Cc (Cv H11 r5 0 v15) fun H19 r17 =>
  Cc (Ke r3 0 v15) fun r20 r21 =>
  (r9).bnd fun i23 o24 =>
  Af (Bf H19 i23 o24) fun x26 =>
  bnd (Bl H19 i23 o24 (T_cpu_Cpu.mk p0.R_ x26.PC_ x26.EPC_ x26.Cause_ x26.State_ x26.Why_ x26.Steps_ x26.Taken_ x26.Out_ x26.setup_ x26.input_)) fun H28 =>
  some (H28, (Ptr.at i23 o24), r5, (T_ref04_Cpu.mk p0.R_ p0.S_.Entry_ 0 0 0 0 0 0 ([] : List T_api_Event) p0.S_.Entry_ p0.S_.Vector_ p0.S_.Guard_ p0.S_.Limit_ p0.Input_), r20))
theorem Y7 (H : Ah) {p0 : T_law04_Case} {ra : Ptr} {rb : Ptr} {rc : T_ref04_Cpu} {rd : T_ref03_Mem} {Hr : Ah} (hF : Nk H p0 = some (Hr, ra, rb, rc, rd)) : evS X 55 [.agg (Dj p0)] H = some (.tup [.one .top (Ptr.av ra), .one .top (Ptr.av rb), .agg (Al rc), .agg (Ac rd)], Hr) := by
 let E2 : EN := (1, vl 1 0)
 let B3 : EB := (1, (Dj p0))
 let B4 : EB := (4, (List.replicate 19 (.top, .int .u32 0) ++ List.replicate 4 (.top, .int .i64 0) ++ [((.own 1), .sl 2 (List.map Ad ([] : List T_api_Event)))] ++ List.replicate 4 (.top, .int .u32 0) ++ [((.own 1), .sl 1 (List.map (eI .i32) ([] : List Int)))]))
 let B5 : EB := (5, (List.replicate 5 (.top, .int .u32 0) ++ [((.own 1), .sl 1 (List.map (eI .u32) ([] : List Int)))]))
 let B6 : EB := (6, (arM .u32 16 p0.R_ ++ [(.top, .int .u32 p0.S_.Entry_), (.top, .int .u32 0), (.top, .int .u32 0)] ++ List.replicate 4 (.top, .int .i64 0) ++ [((.own 1), .sl 2 (List.map Ad ([] : List T_api_Event))), (.top, .int .u32 p0.S_.Entry_), (.top, .int .u32 p0.S_.Vector_), (.top, .int .u32 p0.S_.Guard_), (.top, .int .u32 p0.S_.Limit_), ((.own 0), .sl 1 (List.map (eI .i32) p0.Input_))]))
 let E10 : EN := (33, .agg [(.top, .int .u32 p0.L_.Code_), (.top, .int .u32 p0.L_.Tables_), (.top, .int .u32 p0.L_.Data_), (.top, .int .u32 p0.L_.Heap_), (.top, .int .u32 p0.L_.Stack_)])
 let E12 : EN := (38, .agg [(.top, .int .u32 p0.L_.Code_), (.top, .int .u32 p0.L_.Tables_), (.top, .int .u32 p0.L_.Data_), (.top, .int .u32 p0.L_.Heap_), (.top, .int .u32 p0.L_.Stack_)])
 let E14 : EN := (2, .one .top .nilp)
 let E15 : EN := (3, .one .top .nilp)
 let B16 : EB := (4, (arM .u32 16 p0.R_ ++ [(.top, .int .u32 p0.S_.Entry_), (.top, .int .u32 0), (.top, .int .u32 0)] ++ List.replicate 4 (.top, .int .i64 0) ++ [((.own 1), .sl 2 (List.map Ad ([] : List T_api_Event))), (.top, .int .u32 p0.S_.Entry_), (.top, .int .u32 p0.S_.Vector_), (.top, .int .u32 p0.S_.Guard_), (.top, .int .u32 p0.S_.Limit_), ((.own 0), .sl 1 (List.map (eI .i32) p0.Input_))]))
 let E17 : EN := (57, .agg (arM .u32 16 p0.R_ ++ [(.top, .int .u32 p0.S_.Entry_), (.top, .int .u32 0), (.top, .int .u32 0)] ++ List.replicate 4 (.top, .int .i64 0) ++ [((.own 1), .sl 2 (List.map Ad ([] : List T_api_Event))), (.top, .int .u32 p0.S_.Entry_), (.top, .int .u32 p0.S_.Vector_), (.top, .int .u32 p0.S_.Guard_), (.top, .int .u32 p0.S_.Limit_), ((.own 0), .sl 1 (List.map (eI .i32) p0.Input_))]))
 let B18 : EB := (6, (arM .u32 16 p0.R_ ++ [(.top, .int .u32 p0.S_.Entry_), (.top, .int .u32 0), (.top, .int .u32 0)] ++ List.replicate 4 (.top, .int .i64 0) ++ [(.top, .junk), (.top, .int .u32 p0.S_.Entry_), (.top, .int .u32 p0.S_.Vector_), (.top, .int .u32 p0.S_.Guard_), (.top, .int .u32 p0.S_.Limit_), ((.own 0), .sl 1 (List.map (eI .i32) p0.Input_))]))
 let E20 : EN := (57, .agg (arM .u32 16 p0.R_ ++ [(.top, .int .u32 p0.S_.Entry_), (.top, .int .u32 0), (.top, .int .u32 0)] ++ List.replicate 4 (.top, .int .i64 0) ++ [(.top, .junk), (.top, .int .u32 p0.S_.Entry_), (.top, .int .u32 p0.S_.Vector_), (.top, .int .u32 p0.S_.Guard_), (.top, .int .u32 p0.S_.Limit_), ((.own 0), .sl 1 (List.map (eI .i32) p0.Input_))]))
 let E21 : EN := (63, vi (p0.Words_.length : Int))
 let E32 : EN := (80, .agg (arM .u32 16 p0.R_))
 let E35 : EN := (85, .agg (arM .u32 16 p0.R_ ++ [(.top, .int .u32 p0.S_.Entry_), (.top, .int .u32 0), (.top, .int .u32 0)] ++ List.replicate 4 (.top, .int .i64 0) ++ [((.own 1), .sl 2 (List.map Ad ([] : List T_api_Event))), (.top, .int .u32 p0.S_.Entry_), (.top, .int .u32 p0.S_.Vector_), (.top, .int .u32 p0.S_.Guard_), (.top, .int .u32 p0.S_.Limit_), ((.own 0), .sl 1 (List.map (eI .i32) p0.Input_))]))
 let E37 : EN := (85, .agg (arM .u32 16 p0.R_ ++ [(.top, .int .u32 p0.S_.Entry_), (.top, .int .u32 0), (.top, .int .u32 0)] ++ List.replicate 4 (.top, .int .i64 0) ++ [(.top, .junk), (.top, .int .u32 p0.S_.Entry_), (.top, .int .u32 p0.S_.Vector_), (.top, .int .u32 p0.S_.Guard_), (.top, .int .u32 p0.S_.Limit_), ((.own 0), .sl 1 (List.map (eI .i32) p0.Input_))]))
 let L38 : List EN := [(4, vl 4 0), (5, vl 5 0)]
 let L39 : List EN := L38 ++ [(6, vl 6 0), (7, vl 7 0)]
 let L44 : List EN := [(59, vl 1 9), (60, .one (.own 0) (.sl 1 (List.map (eI .u32) p0.Words_))), (61, vl 1 9), (62, .one (.own 0) (.sl 1 (List.map (eI .u32) p0.Words_)))]
 let L49 : List EN := [E2] ++ L38 ++ [(6, vl 6 0), (32, vl 1 0), E10]
 let L52 : List EN := [(42, vl 1 5), (43, .agg [(.top, .int .u32 p0.S_.Entry_), (.top, .int .u32 p0.S_.Vector_), (.top, .int .u32 p0.S_.Guard_), (.top, .int .u32 p0.S_.Limit_)]), (44, vl 1 26), (45, .one (.own 0) (.sl 1 (List.map (eI .i32) p0.Input_)))]
 let L54 : List EN := [E2] ++ L39 ++ [(37, vl 1 0), E12]
 refine yf Try.func55 false ⟨[(0, .agg (Dj p0))], [], H⟩ ?_
 unfold Nk at hF
 refine ysg ⟨[E2] ++ L38, [B3, B4, B5], H⟩ ?_
 refine ysg ⟨[E2] ++ L38 ++ [(6, vl 6 0)], [B3, B4, B5, B6], H⟩ ?_
 refine Ag ?_
 obtain ⟨r1, c2, hF⟩ := Ab hF
 let E8 : EN := (34, .agg (arM .u32 5 r1))
 obtain ⟨r3, c4, hF⟩ := Ab hF
 let B7 : EB := (7, (Ac r3))
 let E9 : EN := (35, .agg (Ac r3))
 let E19 : EN := (58, .agg (Ac r3))
 let E22 : EN := (66, vi (r3.W_.length : Int))
 let E24 : EN := (65, .one (.own 0) (.sl 1 (List.map (eI .u32) r3.W_)))
 let E25 : EN := (67, vi (if (r3.W_.length : Int) < (p0.Words_.length : Int) then (r3.W_.length : Int) else (p0.Words_.length : Int)))
 let E28 : EN := (73, .agg (Ac r3))
 refine Aj ⟨[E2] ++ L39, [B3, B4, B5, B6, B7], H⟩ ?_ ?_
 refine yr 2 ⟨L49, [B3, B4, B5, B6], H⟩ ?_
 refine Ai ⟨L49 ++ [E8], [B3, B4, B5, B6], H⟩ (yc (some 34) true false (⟨L49, [B3, B4, B5, B6], H⟩ : St) (Pj H c2)) ?_
 refine Ai ⟨L49 ++ [E8, E9], [B3, B4, B5, B6], H⟩ (yc (some 35) true false (⟨L49 ++ [E8], [B3, B4, B5, B6], H⟩ : St) (cG H c4)) ?_
 refine yr 2 ⟨[E2] ++ L39 ++ [(32, vl 1 0), E10, E8, E9], [B3, B4, B5, B6, B7], H⟩ ?_
 exact ye
 refine Ag ?_
 obtain ⟨H8, r5, r6, c7, hF⟩ := R6 hF
 let E11 : Ptr → EN := fun z0 => (39, .tup [vp z0, vi r6])
 let L40 : Ptr → List EN := fun z0 => [E2] ++ L39 ++ [(8, vp z0)]
 let L42 : Ptr → List EN := fun z0 => (L40 z0) ++ [(9, vi r6)]
 refine Aj ⟨(L42 r5), [B3, B4, B5, B6, B7], H8⟩ ?_ ?_
 refine yr 2 ⟨L54, [B3, B4, B5, B6, B7], H⟩ ?_
 refine Ai ⟨L54 ++ [(E11 r5)], [B3, B4, B5, B6, B7], H8⟩ (yc (some 39) false false (⟨L54, [B3, B4, B5, B6, B7], H⟩ : St) (Tb H c7) (hr := (by generalize r5 = qp0; cases qp0 <;> kernel_rfl)) (hs := (by generalize r5 = qp0; cases qp0 <;> kernel_rfl))) ?_
 refine yr 5 ⟨(L42 r5) ++ [(36, .tup [vp r5, vi r6]), (37, vl 1 0), E12, (E11 r5), (40, vp r5), (41, vi r6)], [B3, B4, B5, B6, B7], H8⟩ ?_ (h := (by generalize r5 = qp0; cases qp0 <;> kernel_rfl))
 exact ye
 refine Ag ?_
 obtain ⟨H11, r9, c10, hF⟩ := Be hF
 let E13 : Ptr → EN := fun z0 => (10, vp z0)
 let L41 : Ptr → Ptr → List EN := fun z0 z1 => (L40 z0) ++ [(E13 z1)]
 let L43 : Ptr → Ptr → List EN := fun z0 z1 => (L42 z0) ++ [(E13 z1), (47, vi r6)]
 let L45 : Ptr → Ptr → List EN := fun z0 z1 => (L43 z0 z1) ++ [(48, vF), (49, vF), (50, vp z0)]
 let L47 : Ptr → Ptr → List EN := fun z0 z1 => (L41 z0 z1) ++ L44 ++ [E21, (64, vl 7 5), E24]
 let L51 : Ptr → Ptr → List EN := fun z0 z1 => (L47 z0 z1) ++ [E22, E25]
 let L53 : Ptr → Ptr → List EN := fun z0 z1 => (L45 z0 z1) ++ [(51, vF), (52, vF), (53, vF), (54, vp z1)]
 refine Aj ⟨(L42 r5) ++ [(E13 r9)], [B3, B4, B5, B6, B7], H11⟩ ?_ ?_
 refine yr 4 ⟨(L42 r5) ++ L52, [B3, B4, B5, B6, B7], H8⟩ ?_ (h := (by generalize r5 = qp0; cases qp0 <;> kernel_rfl))
 refine Ai ⟨(L42 r5) ++ L52 ++ [(46, vp r9)], [B3, B4, B5, B6, B7], H11⟩ (yc (some 46) false false (⟨(L42 r5) ++ L52, [B3, B4, B5, B6, B7], H8⟩ : St) (cH H8 c10) (hr := (by generalize r5 = qp0; generalize r9 = qp1; cases qp0 <;> cases qp1 <;> kernel_rfl)) (hs := (by generalize r5 = qp0; generalize r9 = qp1; cases qp0 <;> cases qp1 <;> kernel_rfl))) ?_
 refine yr 1 ⟨(L42 r5) ++ [(E13 r9)] ++ L52 ++ [(46, vp r9)], [B3, B4, B5, B6, B7], H11⟩ ?_ (h := (by generalize r5 = qp0; generalize r9 = qp1; cases qp0 <;> cases qp1 <;> kernel_rfl))
 exact ye
 refine Ag ?_
 refine yso ⟨(L41 r5 r9) ++ [(56, vb ((r6 != 0) || (r5.isNil || r9.isNil)))], [B3, B4, B5, B6, B7], H11⟩ ?_ ?_
 refine yr 3 ⟨(L43 r5 r9) ++ [(48, vb (r6 != 0)), (49, vb (r6 != 0))], [B3, B4, B5, B6, B7], H11⟩ ?_ (h := (by generalize r5 = qp0; generalize r9 = qp1; cases qp0 <;> cases qp1 <;> kernel_rfl))
 rcases Ax (r6 != 0) with h12 | h12
 refine Bd (congrArg (fun q => (⟨(L43 r5 r9) ++ [(48, vb q), (49, vb q)], [B3, B4, B5, B6, B7], H11⟩ : St)) h12) ?_
 refine yr 7 ⟨(L43 r5 r9) ++ [(48, vT), (49, vT), (50, vN), (51, vN), (52, vT), (53, vT), (54, vN), (55, vN), (56, vT)], [B3, B4, B5, B6, B7], H11⟩ ?_ (h := (by generalize r5 = qp0; generalize r9 = qp1; cases qp0 <;> cases qp1 <;> kernel_rfl))
 refine Bw (congrArg (fun q0 => (⟨(L41 r5 r9) ++ [(56, vb q0)], [B3, B4, B5, B6, B7], H11⟩ : St)) (show true = ((r6 != 0) || (r5.isNil || r9.isNil)) by simp [h12])) ?_
 exact ye
 refine Bd (congrArg (fun q => (⟨(L43 r5 r9) ++ [(48, vb q), (49, vb q)], [B3, B4, B5, B6, B7], H11⟩ : St)) h12) ?_
 refine yr 1 ⟨(L45 r5 r9), [B3, B4, B5, B6, B7], H11⟩ ?_ (h := (by generalize r5 = qp0; generalize r9 = qp1; cases qp0 <;> cases qp1 <;> kernel_rfl))
 refine Ai ⟨(L45 r5 r9) ++ [(51, vb r5.isNil)], [B3, B4, B5, B6, B7], H11⟩ (Ro (⟨(L45 r5 r9), [B3, B4, B5, B6, B7], H11⟩ : St) (Wv (P := X.P) (ty := 103) (x := (.tmp 50)) (y := (.const (.pointer none))) (m := .top) (m' := .top) r5 (by generalize r5 = qp0; generalize r9 = qp1; cases qp0 <;> cases qp1 <;> kernel_rfl) (by generalize r5 = qp0; generalize r9 = qp1; cases qp0 <;> cases qp1 <;> kernel_rfl)) rfl (some 51) (by generalize r5 = qp0; generalize r9 = qp1; cases qp0 <;> cases qp1 <;> kernel_rfl) (by generalize r5 = qp0; generalize r9 = qp1; cases qp0 <;> cases qp1 <;> kernel_rfl)) ?_
 refine yr 2 ⟨(L45 r5 r9) ++ [(51, vb r5.isNil), (52, vb r5.isNil), (53, vb r5.isNil)], [B3, B4, B5, B6, B7], H11⟩ ?_ (h := (by generalize r5 = qp0; generalize r9 = qp1; cases qp0 <;> cases qp1 <;> kernel_rfl))
 rcases Ax r5.isNil with h13 | h13
 refine Bd (congrArg (fun q => (⟨(L45 r5 r9) ++ [(51, vb q), (52, vb q), (53, vb q)], [B3, B4, B5, B6, B7], H11⟩ : St)) h13) ?_
 refine yr 3 ⟨(L45 r5 r9) ++ [(51, vT), (52, vT), (53, vT), (54, vN), (55, vN), (56, vT)], [B3, B4, B5, B6, B7], H11⟩ ?_ (h := (by generalize r5 = qp0; generalize r9 = qp1; cases qp0 <;> cases qp1 <;> kernel_rfl))
 refine Bw (congrArg (fun q0 => (⟨(L41 r5 r9) ++ [(56, vb q0)], [B3, B4, B5, B6, B7], H11⟩ : St)) (show true = ((r6 != 0) || (r5.isNil || r9.isNil)) by simp [h12, h13])) ?_
 exact ye
 refine Bd (congrArg (fun q => (⟨(L45 r5 r9) ++ [(51, vb q), (52, vb q), (53, vb q)], [B3, B4, B5, B6, B7], H11⟩ : St)) h13) ?_
 refine yr 1 ⟨(L53 r5 r9), [B3, B4, B5, B6, B7], H11⟩ ?_ (h := (by generalize r5 = qp0; generalize r9 = qp1; cases qp0 <;> cases qp1 <;> kernel_rfl))
 refine Ai ⟨(L53 r5 r9) ++ [(55, vb r9.isNil)], [B3, B4, B5, B6, B7], H11⟩ (Ro (⟨(L53 r5 r9), [B3, B4, B5, B6, B7], H11⟩ : St) (Wv (P := X.P) (ty := 102) (x := (.tmp 54)) (y := (.const (.pointer none))) (m := .top) (m' := .top) r9 (by generalize r5 = qp0; generalize r9 = qp1; cases qp0 <;> cases qp1 <;> kernel_rfl) (by generalize r5 = qp0; generalize r9 = qp1; cases qp0 <;> cases qp1 <;> kernel_rfl)) rfl (some 55) (by generalize r5 = qp0; generalize r9 = qp1; cases qp0 <;> cases qp1 <;> kernel_rfl) (by generalize r5 = qp0; generalize r9 = qp1; cases qp0 <;> cases qp1 <;> kernel_rfl)) ?_
 refine yr 1 ⟨(L53 r5 r9) ++ [(55, vb r9.isNil), (56, vb r9.isNil)], [B3, B4, B5, B6, B7], H11⟩ ?_ (h := (by generalize r5 = qp0; generalize r9 = qp1; cases qp0 <;> cases qp1 <;> kernel_rfl))
 refine Bw (congrArg (fun q0 => (⟨(L41 r5 r9) ++ [(56, vb q0)], [B3, B4, B5, B6, B7], H11⟩ : St)) (show r9.isNil = ((r6 != 0) || (r5.isNil || r9.isNil)) by simp [h12, h13])) ?_
 exact ye
 rcases Ae hF with ⟨h14, hF⟩ | ⟨h14, hF⟩
 refine yT h14 ⟨L39, [B4, B5, B6, B7], H11⟩ ?_
 refine Ag ?_
 refine Bs (.take 0 (.take 1 (.take 2 (.take 3 (.last 4 (.last 5 .done)))))) (by kernel_rfl) (⟨[E14, E15] ++ L38, [B16, (5, (Ac r3))], H11⟩ : St) ?_ ?_
 refine ydk 4 ⟨[E14, E15] ++ L39 ++ [E17, E19], [B4, B5, B18, B7], H11⟩ ?_
 refine ydl ⟨[E14, E15] ++ L39 ++ [E20, E19], [B16, B5, B18, B7], H11⟩ ?_
 refine ydl ⟨[E14, E15] ++ L39 ++ [E20, E19], [B16, (5, (Ac r3)), B18, B7], H11⟩ ?_
 exact yde
 refine Au ?_
 obtain ⟨e0, e1, e2, e3, e4⟩ := aM hF
 subst e0
 subst e1
 subst e2
 subst e3
 subst e4
 exact yi (.tup [.one .top .nilp, .one .top .nilp, .agg (arM .u32 16 p0.R_ ++ [(.top, .int .u32 p0.S_.Entry_), (.top, .int .u32 0), (.top, .int .u32 0)] ++ List.replicate 4 (.top, .int .i64 0) ++ [((.own 1), .sl 2 (List.map Ad ([] : List T_api_Event))), (.top, .int .u32 p0.S_.Entry_), (.top, .int .u32 p0.S_.Vector_), (.top, .int .u32 p0.S_.Guard_), (.top, .int .u32 p0.S_.Limit_), ((.own 0), .sl 1 (List.map (eI .i32) p0.Input_))]), .agg (Ac r3)])
 refine yF h14 ⟨(L41 r5 r9), [B3, B4, B5, B6, B7], H11⟩ ?_
 refine Ao ?_
 refine Ag ?_
 obtain ⟨v15, h16, hF⟩ := Ab hF
 let E23 : EN := (68, .one (.own 0) (.sl 1 (List.map (eI .u32) v15)))
 let E26 : EN := (70, .one (.own 0) (.sl 1 (List.map (eI .u32) v15)))
 let E29 : EN := (74, .one (.own 0) (.sl 1 (List.map (eI .u32) v15)))
 let L46 : Ptr → Ptr → List EN := fun z0 z1 => (L41 z0 z1) ++ [(11, .one (.own 0) (.sl 1 (List.map (eI .u32) v15)))]
 refine Aj ⟨(L46 r5 r9), [B3, B4, B5, B6, B7], H11⟩ ?_ ?_
 refine yr 4 ⟨(L41 r5 r9) ++ L44, [B3, B4, B5, B6, B7], H11⟩ ?_ (h := (by generalize r5 = qp0; generalize r9 = qp1; cases qp0 <;> cases qp1 <;> kernel_rfl))
 refine Ai ⟨(L41 r5 r9) ++ L44 ++ [E21], [B3, B4, B5, B6, B7], H11⟩ (bV (⟨(L41 r5 r9) ++ L44, [B3, B4, B5, B6, B7], H11⟩ : St) p0.Words_ (eI .u32) (some 63) (by generalize r5 = qp0; generalize r9 = qp1; cases qp0 <;> cases qp1 <;> kernel_rfl) (by generalize r5 = qp0; generalize r9 = qp1; cases qp0 <;> cases qp1 <;> kernel_rfl)) ?_
 refine yr 2 ⟨(L47 r5 r9), [B3, B4, B5, B6, B7], H11⟩ ?_ (h := (by generalize r5 = qp0; generalize r9 = qp1; cases qp0 <;> cases qp1 <;> kernel_rfl))
 refine Ai ⟨(L47 r5 r9) ++ [E22], [B3, B4, B5, B6, B7], H11⟩ (bV (⟨(L47 r5 r9), [B3, B4, B5, B6, B7], H11⟩ : St) r3.W_ (eI .u32) (some 66) (by generalize r5 = qp0; generalize r9 = qp1; cases qp0 <;> cases qp1 <;> kernel_rfl) (by generalize r5 = qp0; generalize r9 = qp1; cases qp0 <;> cases qp1 <;> kernel_rfl)) ?_
 refine yr 1 ⟨(L51 r5 r9), [B3, B4, B5, B6, B7], H11⟩ ?_ (h := (by generalize r5 = qp0; generalize r9 = qp1; cases qp0 <;> cases qp1 <;> kernel_rfl))
 refine Ai ⟨(L51 r5 r9) ++ [E23], [B3, B4, B5, B6, B7], H11⟩ (pQ (X := X) (⟨(L51 r5 r9), [B3, B4, B5, B6, B7], H11⟩ : St) 42 35 1 h16 (eI .u32) (.own 0) none (some (.tmp 67)) (some 68) (by generalize r5 = qp0; generalize r9 = qp1; cases qp0 <;> cases qp1 <;> kernel_rfl) (by generalize r5 = qp0; generalize r9 = qp1; cases qp0 <;> cases qp1 <;> kernel_rfl) (by generalize r5 = qp0; generalize r9 = qp1; cases qp0 <;> cases qp1 <;> kernel_rfl) (by generalize r5 = qp0; generalize r9 = qp1; cases qp0 <;> cases qp1 <;> kernel_rfl) (show eC X.P _ _ none _ from rfl) (show (opnd X.P (⟨(L51 r5 r9), [B3, B4, B5, B6, B7], H11⟩ : St) 0 (.tmp 67)).bind T2 = some (if (r3.W_.length : Int) < (p0.Words_.length : Int) then (r3.W_.length : Int) else (p0.Words_.length : Int)) by kernel_rfl) (by generalize r5 = qp0; generalize r9 = qp1; cases qp0 <;> cases qp1 <;> kernel_rfl)) ?_
 refine yr 1 ⟨(L46 r5 r9) ++ L44 ++ [E21, (64, vl 7 5), E24, E22, E25, E23], [B3, B4, B5, B6, B7], H11⟩ ?_ (h := (by generalize r5 = qp0; generalize r9 = qp1; cases qp0 <;> cases qp1 <;> kernel_rfl))
 exact ye
 refine Ag ?_
 obtain ⟨H19, r17, c18, hF⟩ := Be hF
 refine Aj ⟨(L46 r5 r9), [B3, B4, B5, B6, B7], H19⟩ ?_ ?_
 refine yr 2 ⟨(L46 r5 r9) ++ [(69, vp r5), E26], [B3, B4, B5, B6, B7], H11⟩ ?_ (h := (by generalize r5 = qp0; generalize r9 = qp1; cases qp0 <;> cases qp1 <;> kernel_rfl))
 refine Ai ⟨(L46 r5 r9) ++ [(69, vp r5), E26, (71, vi r17)], [B3, B4, B5, B6, B7], H19⟩ (yc (some 71) false false (⟨(L46 r5 r9) ++ [(69, vp r5), E26], [B3, B4, B5, B6, B7], H11⟩ : St) (Rp H11 c18) (hr := (by generalize r5 = qp0; generalize r9 = qp1; cases qp0 <;> cases qp1 <;> kernel_rfl)) (hs := (by generalize r5 = qp0; generalize r9 = qp1; cases qp0 <;> cases qp1 <;> kernel_rfl))) ?_
 exact ye
 refine Ag ?_
 obtain ⟨r20, r21, c22, hF⟩ := Be hF
 let B27 : EB := (7, (Ac r20))
 let E30 : EN := (75, .tup [.agg (Ac r20), vi r21])
 let E36 : EN := (86, .agg (Ac r20))
 refine Aj ⟨(L41 r5 r9), [B3, B4, B5, B6, B27], H19⟩ ?_ ?_
 refine yr 2 ⟨(L46 r5 r9) ++ [E28, E29], [B3, B4, B5, B6, B7], H19⟩ ?_ (h := (by generalize r5 = qp0; generalize r9 = qp1; cases qp0 <;> cases qp1 <;> kernel_rfl))
 refine Ai ⟨(L46 r5 r9) ++ [E28, E29, E30], [B3, B4, B5, B6, B7], H19⟩ (yc (some 75) true false (⟨(L46 r5 r9) ++ [E28, E29], [B3, B4, B5, B6, B7], H19⟩ : St) (Zr H19 c22) (hr := (by generalize r5 = qp0; generalize r9 = qp1; cases qp0 <;> cases qp1 <;> kernel_rfl)) (hs := (by generalize r5 = qp0; generalize r9 = qp1; cases qp0 <;> cases qp1 <;> kernel_rfl))) ?_
 refine yr 4 ⟨(L46 r5 r9) ++ [(72, .tup [.agg (Ac r20), vi r21]), E28, E29, E30, (76, .agg (Ac r20)), (77, vi r21)], [B3, B4, B5, B6, B27], H19⟩ ?_ (h := (by generalize r5 = qp0; generalize r9 = qp1; cases qp0 <;> cases qp1 <;> kernel_rfl))
 exact ye
 refine Ag ?_
 obtain ⟨i23, o24, h25, hF⟩ := Bu hF
 let E31 : EN := (10, vo i23 o24)
 let E33 : EN := (82, vo i23 o24)
 let E34 : EN := (2, vo i23 o24)
 let L48 : Ptr → List EN := fun z0 => L39 ++ [(8, vp z0), E31, (83, vo i23 o24), (84, vp z0)]
 let L50 : Ptr → List EN := fun z0 => (L40 z0) ++ [E31, (78, vo i23 o24), (79, vl 1 10), E32, (81, vo i23 o24)]
 obtain ⟨x26, V27, hF⟩ := Ab hF
 replace V27 := Bb V27
 let W1 : Ah := Dt H19 i23 o24 (arM .u32 16 p0.R_ ++ [(.top, .int .u32 x26.PC_), (.top, .int .u32 x26.EPC_), (.top, .int .u32 x26.Cause_), (.top, .int .i64 x26.State_), (.top, .int .i64 x26.Why_), (.top, .int .i64 x26.Steps_), (.top, .int .i64 x26.Taken_), ((.own 1), .sl 2 (List.map Ad x26.Out_)), (.top, .int .u32 x26.setup_.Entry_), (.top, .int .u32 x26.setup_.Vector_), (.top, .int .u32 x26.setup_.Guard_), (.top, .int .u32 x26.setup_.Limit_), ((.own 1), .sl 1 (List.map (eI .i32) x26.input_))])
 obtain ⟨H28, h29, hF⟩ := Cl hF
 have V30 : Ct H28 i23 o24 29 = some (Bz (T_cpu_Cpu.mk p0.R_ x26.PC_ x26.EPC_ x26.Cause_ x26.State_ x26.Why_ x26.Steps_ x26.Taken_ x26.Out_ x26.setup_ x26.input_)) := by rw [← h29]; exact Bv V27 rfl
 refine Aj ⟨L39 ++ [(8, vp r5), E31], [B4, B5, B6, B27], H28⟩ ?_ ?_
 refine yr 3 ⟨(L41 r5 r9) ++ [(78, vp r9), (79, vl 1 10), E32], [B3, B4, B5, B6, B27], H19⟩ ?_ (h := (by generalize r5 = qp0; generalize r9 = qp1; cases qp0 <;> cases qp1 <;> kernel_rfl))
 refine Bd (congrArg (fun q => (⟨(L40 r5) ++ [(10, vp q), (78, vp q), (79, vl 1 10), E32], [B3, B4, B5, B6, B27], H19⟩ : St)) h25) ?_
 refine yr 1 ⟨(L50 r5), [B3, B4, B5, B6, B27], H19⟩ ?_ (h := (by generalize r5 = qp0; cases qp0 <;> kernel_rfl))
 refine yr 1 ⟨(L50 r5) ++ [E33], [B3, B4, B5, B6, B27], H19⟩ ?_ (h := (by generalize r5 = qp0; cases qp0 <;> kernel_rfl))
 refine Ai ⟨(L50 r5) ++ [E33], [B3, B4, B5, B6, B27], W1⟩ (G7 (X := X) (lc := []) (h2 := W1) (⟨(L50 r5) ++ [E33], [B3, B4, B5, B6, B27], H19⟩ : St) 46 V27 0 16 (.agg (arM .u32 16 p0.R_)) (by generalize r5 = qp0; cases qp0 <;> kernel_rfl) (by generalize r5 = qp0; cases qp0 <;> kernel_rfl) (by generalize r5 = qp0; cases qp0 <;> kernel_rfl) (by generalize r5 = qp0; cases qp0 <;> kernel_rfl) (by generalize r5 = qp0; cases qp0 <;> kernel_rfl) (by generalize r5 = qp0; cases qp0 <;> kernel_rfl) (Cd (k := 0) V27 (Nat.le_of_ble_eq_true rfl)) (by generalize r5 = qp0; cases qp0 <;> kernel_rfl)) ?_
 refine Bd (congrArg (fun q => (⟨(L50 r5) ++ [E33], [B3, B4, B5, B6, B27], q⟩ : St)) h29) ?_
 exact ye
 refine Ag ?_
 refine Bs (.take 0 (.take 1 (.take 2 (.take 3 (.take 4 (.take 5 (.last 6 (.last 7 .done)))))))) (by kernel_rfl) (⟨[E34, (3, vp r5)] ++ L38, [B16, (5, (Ac r20))], H28⟩ : St) ?_ ?_
 refine Aq ⟨L39 ++ [(8, vp r5), E31, (83, vo i23 o24)], [B4, B5, B6, B27], H28⟩ (by generalize r5 = qp0; cases qp0 <;> kernel_rfl) ?_
 refine Aq ⟨(L48 r5), [B4, B5, B6, B27], H28⟩ (by generalize r5 = qp0; cases qp0 <;> kernel_rfl) ?_
 refine Aq ⟨(L48 r5) ++ [E35], [B4, B5, B18, B27], H28⟩ (by generalize r5 = qp0; cases qp0 <;> kernel_rfl) ?_
 refine Aq ⟨(L48 r5) ++ [E35, E36], [B4, B5, B18, B27], H28⟩ (by generalize r5 = qp0; cases qp0 <;> kernel_rfl) ?_
 refine Aq ⟨[E34] ++ (L48 r5) ++ [E35, E36], [B4, B5, B18, B27], H28⟩ (by generalize r5 = qp0; cases qp0 <;> kernel_rfl) ?_
 refine Aq ⟨[E34, (3, vp r5)] ++ (L48 r5) ++ [E35, E36], [B4, B5, B18, B27], H28⟩ (by generalize r5 = qp0; cases qp0 <;> kernel_rfl) ?_
 refine Br ⟨[E34, (3, vp r5)] ++ (L48 r5) ++ [E37, E36], [B16, B5, B18, B27], H28⟩ (by generalize r5 = qp0; cases qp0 <;> kernel_rfl) ?_
 refine Br ⟨[E34, (3, vp r5)] ++ (L48 r5) ++ [E37, E36], [B16, (5, (Ac r20)), B18, B27], H28⟩ (by generalize r5 = qp0; cases qp0 <;> kernel_rfl) ?_
 exact yde
 refine Au ?_
 obtain ⟨e0, e1, e2, e3, e4⟩ := aM hF
 subst e0
 subst e1
 subst e2
 subst e3
 subst e4
 exact iJ (v := .tup [vo i23 o24, vp r5, .agg (arM .u32 16 p0.R_ ++ [(.top, .int .u32 p0.S_.Entry_), (.top, .int .u32 0), (.top, .int .u32 0)] ++ List.replicate 4 (.top, .int .i64 0) ++ [((.own 1), .sl 2 (List.map Ad ([] : List T_api_Event))), (.top, .int .u32 p0.S_.Entry_), (.top, .int .u32 p0.S_.Vector_), (.top, .int .u32 p0.S_.Guard_), (.top, .int .u32 p0.S_.Limit_), ((.own 0), .sl 1 (List.map (eI .i32) p0.Input_))]), .agg (Ac r20)]) (by generalize r5 = qp0; cases qp0 <;> kernel_rfl) (by kernel_rfl) (by kernel_rfl)
theorem We (H : Ah) {p0 : T_ref03_Mem} {p1 : Int} {p2 : (List Int)} {ra : T_ref03_Mem} (hF : Dr p0 p1 p2 = some ra) : evS X 94 [.agg (Ac p0), .one .top (.int .i64 p1), .one .ro (.sl 1 (List.map (eI .u32) p2))] H = some (.agg (Ac ra), H) := by
 let E1 : EN := (2, .one .ro (.sl 1 (List.map (eI .u32) p2)))
 let B2 : EB := (3, (Ac p0))
 let B3 : EB := (6, (List.replicate 5 (.top, .int .u32 0) ++ [((.own 1), .sl 1 (List.map (eI .u32) ([] : List Int)))]))
 let E5 : EN := (11, vi (p0.W_.length : Int))
 let E6 : EN := (10, .one (.own 0) (.sl 1 (List.map (eI .u32) p0.W_)))
 let E9 : EN := (15, .one (.own 0) (.sl 1 (List.map (eI .u32) p0.W_)))
 let E11 : EN := (19, vi (p2.length : Int))
 let L16 : List EN := [(3, vl 3 0), (6, vl 6 0)]
 let L17 : List EN := [(1, vi p1), E1] ++ L16
 let L20 : List EN := L17 ++ [(9, vl 3 5), E6]
 refine yf Try.func94 true ⟨[(0, .agg (Ac p0)), (1, vi p1), E1], [], H⟩ ?_
 unfold Dr at hF
 refine ysg ⟨L17, [B2, B3], H⟩ ?_
 refine Ag ?_
 obtain ⟨v1, h2, hF⟩ := Ab hF
 let E4 : EN := (7, .one (.own 1) (.sl 1 (List.map (eI .u32) v1)))
 let E8 : EN := (13, .one .top (.at_ (.tmp 7) 0 ((List.map (eI .u32) v1).length)))
 refine Aj ⟨L17 ++ [E4], [B2, B3], H⟩ ?_ ?_
 refine yr 2 ⟨L20, [B2, B3], H⟩ ?_
 refine Ai ⟨L20 ++ [E5], [B2, B3], H⟩ (yl (⟨L20, [B2, B3], H⟩ : St) p0.W_ (eI .u32) (some 11)) ?_
 refine Ai ⟨L20 ++ [E5, (12, .one (.own 1) (.sl 1 (List.map (eI .u32) v1)))], [B2, B3], H⟩ (dZ (X := X) (⟨L20 ++ [E5], [B2, B3], H⟩ : St) 4 h2 42 35 1 [(.top, .int .u32 0)] (eI .u32) 0 (.i64) (.i64) (some 12) (by kernel_rfl) (by kernel_rfl) (by kernel_rfl) (by kernel_rfl) (by kernel_rfl) (by kernel_rfl) (by kernel_rfl) (by kernel_rfl) (by kernel_rfl) (by kernel_rfl)) ?_
 refine yr 1 ⟨L17 ++ [E4, (9, vl 3 5), E6, E5, (12, .one .top .junk)], [B2, B3], H⟩ ?_
 exact ye
 refine Ag ?_
 obtain ⟨v3, h4, hF⟩ := Cl hF
 let E7 : EN := (7, .one (.own 1) (.sl 1 (List.map (eI .u32) v3)))
 refine Aj ⟨L17 ++ [E7], [B2, B3], H⟩ ?_ ?_
 refine yr 3 ⟨L17 ++ [E4, E8, (14, vl 3 5), E9], [B2, B3], H⟩ ?_
 refine Ai ⟨L17 ++ [E7, E8, (14, vl 3 5), E9, (16, vi (((min p0.W_.length (v1.length - 0) : Nat)) : Int))], [B2, B3], H⟩ (gA (X := X) (⟨L17 ++ [E4, E8, (14, vl 3 5), E9], [B2, B3], H⟩ : St) 42 35 0 1 (eI .u32) 7 (.own 0) v1 p0.W_ 0 h4 (some 16) ⟨true, []⟩ (Nat.zero_le _) (by kernel_rfl) (by kernel_rfl) (by kernel_rfl) (fun _ => rfl) (fun _ => rfl) (by kernel_rfl) (by kernel_rfl)) ?_
 exact ye
 refine Ag ?_
 refine ysg ⟨L17 ++ [E7, (8, vi 0)], [B2, B3], H⟩ ?_
 refine Bt ?_
 obtain ⟨r14, hL15, hF⟩ := Ab hF
 refine Qn (fun (x : ((List Int) × Int)) => (⟨L17 ++ [(7, .one (.own 1) (.sl 1 (List.map (eI .u32) x.1))), (8, vi x.2)], [B2, B3], H⟩ : St)) (fun (y : ((List Int))) => ((.exit 0, (⟨L16 ++ [(7, .one (.own 1) (.sl 1 (List.map (eI .u32) y)))], [B2, B3], H⟩ : St)) : Ex × St)) hL15 (by kernel_rfl) ?_ ?_
 rintro ⟨a5, a6⟩ o hF
 replace hF : Cw p2 p1 a5 a6 = some o := hF
 let E10 : EN := (20, vb (decide (a6 < (p2.length : Int))))
 let E14 : EN := (31, .one .top (.el (.tmp 7) (Int.toNat (IntKind.wrap .i64 (p1 + a6))) 0))
 let E15 : EN := (7, .one (.own 1) (.sl 1 (List.map (eI .u32) a5)))
 let L18 : List EN := L17 ++ [E15, (8, vi a6)]
 let L19 : List EN := [(23, .one .top (.at_ (.tmp 7) 0 ((List.map (eI .u32) a5).length))), (24, vi p1), (25, vi a6), (26, vi (IntKind.wrap .i64 (p1 + a6))), (27, .one .ro (.sl 1 (List.map (eI .u32) p2))), (28, vi a6)]
 let L21 : List EN := L18 ++ [(17, vi a6), (18, .one .ro (.sl 1 (List.map (eI .u32) p2)))]
 unfold Cw at hF
 refine Ag ?_
 refine yso ⟨L18 ++ [E10], [B2, B3], H⟩ ?_ ?_
 refine yr 2 ⟨L21, [B2, B3], H⟩ ?_
 refine Ai ⟨L21 ++ [E11], [B2, B3], H⟩ (yl (⟨L21, [B2, B3], H⟩ : St) p2 (eI .u32) (some 19)) ?_
 refine yr 1 ⟨L21 ++ [E11, E10], [B2, B3], H⟩ ?_
 exact ye
 rcases Ae hF with ⟨h7, hF⟩ | ⟨h7, hF⟩
 refine yT h7 ⟨L18, [B2, B3], H⟩ ?_
 refine Ao ?_
 refine Ag ?_
 refine Bt ?_
 obtain ⟨x8, h9, hF⟩ := Ab hF
 let E13 : EN := (29, .one .top (.rd .ro .ro [.int .u32 x8] 0))
 let L22 : List EN := L18 ++ L19 ++ [E13, (30, vu x8)]
 obtain ⟨x10, h11, hF⟩ := Ab hF
 obtain ⟨v12, h13, hF⟩ := Ab hF
 let E12 : EN := (7, .one (.own 1) (.sl 1 (List.map (eI .u32) v12)))
 let L23 : List EN := L17 ++ [E12, (8, vi a6)] ++ L19 ++ [E13, (30, vu x8), E14]
 refine Aj ⟨L17 ++ [E12, (8, vi a6)], [B2, B3], H⟩ ?_ ?_
 refine yr 6 ⟨L18 ++ L19, [B2, B3], H⟩ ?_
 refine Ai ⟨L18 ++ L19 ++ [E13], [B2, B3], H⟩ (P5 (X := X) (⟨L18 ++ L19, [B2, B3], H⟩ : St) 42 35 1 h9 (eI .u32) .ro (some 29) (by kernel_rfl) (by kernel_rfl) (by kernel_rfl) (by kernel_rfl)) ?_
 refine yr 1 ⟨L22, [B2, B3], H⟩ ?_
 refine Ai ⟨L22 ++ [E14], [B2, B3], H⟩ (bU (X := X) (⟨L22, [B2, B3], H⟩ : St) 42 35 1 h11 (eI .u32) (.tmp 7) 0 (List.map (eI .u32) a5).length 0 (some 31) (by kernel_rfl) (by kernel_rfl) (by kernel_rfl) (by kernel_rfl) rfl (List.length_map _) (by kernel_rfl)) ?_
 refine Ai ⟨L23, [B2, B3], H⟩ (bZ (X := X) (⟨L22 ++ [E14], [B2, B3], H⟩ : St) (⟨L23, [B2, B3], H⟩ : St) ⟨true, []⟩ 35 (.tmp 7) (Int.toNat (IntKind.wrap .i64 (p1 + a6))) 0 1 0 (List.map (eI .u32) a5) [.int .u32 x10] ((eI .u32) x8) (List.map (eI .u32) v12) 1 (vu x8) (by kernel_rfl) (by kernel_rfl) (by kernel_rfl) (by kernel_rfl) (by kernel_rfl) (by kernel_rfl) (iM h11) (by kernel_rfl) (by kernel_rfl) (bY h13) (by kernel_rfl) (by kernel_rfl)) ?_
 exact ye
 refine yg ⟨L17 ++ [E12, (8, vi (IntKind.wrap .i64 (a6 + 1)))], [B2, B3], H⟩ ?_
 cases hF
 exact ⟨_, rfl, (by kernel_rfl)⟩
 refine yF h7 ⟨L16 ++ [E15], [B2, B3], H⟩ ?_
 refine Ph ?_
 cases hF
 exact ⟨_, rfl, (by kernel_rfl)⟩
 obtain ⟨b16, hy⟩ : ∃ y, y = r14 := ⟨_, rfl⟩
 subst hy
 refine bT (i := 0) (s := (⟨L16 ++ [(7, .one (.own 1) (.sl 1 (List.map (eI .u32) b16)))], [B2, B3], H⟩ : St)) (by kernel_rfl) ?_
 refine Qm ?_
 refine ysg ⟨L16, [(3, (arM .u32 5 p0.Ends_ ++ [((.own 1), .sl 1 (List.map (eI .u32) b16))])), B3], H⟩ ?_
 refine ysg ⟨[(6, vl 6 0)], [(6, (arM .u32 5 p0.Ends_ ++ [((.own 1), .sl 1 (List.map (eI .u32) b16))]))], H⟩ ?_
 refine Au ?_
 obtain e0 := Am hF
 subst e0
 exact yp (.agg (arM .u32 5 p0.Ends_ ++ [((.own 1), .sl 1 (List.map (eI .u32) b16))]))
theorem Wf (H : Ah) {p0 : T_ref03_Mem} {p1 : Int} {p2 : (List Int)} {ra : T_ref03_Mem} {rb : Int} (hF : Ke p0 p1 p2 = some (ra, rb)) : evS X 57 [.agg (Ac p0), .one .top (.int .u32 p1), .one (.own 1) (.sl 1 (List.map (eI .u32) p2))] H = some (.tup [.agg (Ac ra), .one .top (.int .i64 rb)], H) := by
 let E1 : EN := (2, .one (.own 1) (.sl 1 (List.map (eI .u32) p2)))
 let B2 : EB := (3, (Ac p0))
 let B3 : EB := (6, (List.replicate 5 (.top, .int .u32 0) ++ [((.own 1), .sl 1 (List.map (eI .u32) ([] : List Int)))]))
 let E4 : EN := (6, vl 6 0)
 let E5 : EN := (21, vb (decide ((IntKind.wrap .i64 ((IntKind.wrap .i64 (IntKind.wrap .u32 (Int.tdiv p1 4))) + (p2.length : Int))) > (p0.W_.length : Int))))
 let E6 : EN := (16, vi (p2.length : Int))
 let E7 : EN := (20, vi (p0.W_.length : Int))
 let L9 : List EN := [(1, vu p1), E1, (3, vl 3 0), E4]
 let L10 : List EN := L9 ++ [(12, vu p1), (13, vu (IntKind.wrap .u32 (Int.tdiv p1 4))), (14, vi (IntKind.wrap .i64 (IntKind.wrap .u32 (Int.tdiv p1 4)))), (15, .one .bl (.sl 1 (List.map (eI .u32) p2)))]
 let L11 : List EN := L10 ++ [E6, (17, vi (IntKind.wrap .i64 ((IntKind.wrap .i64 (IntKind.wrap .u32 (Int.tdiv p1 4))) + (p2.length : Int)))), (18, vl 3 5), (19, .one (.own 0) (.sl 1 (List.map (eI .u32) p0.W_)))]
 let L12 : List EN := [(23, .agg (Ac p0)), (24, vu p1), (25, vu (IntKind.wrap .u32 (Int.tdiv p1 4))), (26, vi (IntKind.wrap .i64 (IntKind.wrap .u32 (Int.tdiv p1 4)))), (27, .one .bl (.sl 1 (List.map (eI .u32) p2)))]
 let S13 : St := ⟨[(3, vl 3 0), E4], [B2, B3], H⟩
 refine yf Try.func57 true ⟨[(0, .agg (Ac p0)), (1, vu p1), E1], [], H⟩ ?_
 unfold Ke at hF
 refine ysg ⟨L9, [B2, B3], H⟩ ?_
 refine Ag ?_
 refine ysg ⟨L9 ++ [(10, vb ((Int.tmod p1 4) != 0))], [B2, B3], H⟩ ?_
 rcases Ae hF with ⟨h1, hF⟩ | ⟨h1, hF⟩
 refine yT h1 S13 ?_
 refine ysg ⟨[E4, (7, vi 30)], [(6, (Ac p0))], H⟩ ?_
 refine Au ?_
 obtain ⟨e0, e1⟩ := Ar hF
 subst e0
 subst e1
 exact yp (.tup [.agg (Ac p0), vi 30])
 refine yF h1 ⟨L9, [B2, B3], H⟩ ?_
 refine Ao ?_
 refine Ag ?_
 refine yso ⟨L9 ++ [E5], [B2, B3], H⟩ ?_ ?_
 refine yr 4 ⟨L10, [B2, B3], H⟩ ?_
 refine Ai ⟨L10 ++ [E6], [B2, B3], H⟩ (yl (⟨L10, [B2, B3], H⟩ : St) p2 (eI .u32) (some 16)) ?_
 refine yr 3 ⟨L11, [B2, B3], H⟩ ?_
 refine Ai ⟨L11 ++ [E7], [B2, B3], H⟩ (yl (⟨L11, [B2, B3], H⟩ : St) p0.W_ (eI .u32) (some 20)) ?_
 refine yr 1 ⟨L11 ++ [E7, E5], [B2, B3], H⟩ ?_
 exact ye
 rcases Ae hF with ⟨h2, hF⟩ | ⟨h2, hF⟩
 refine yT h2 S13 ?_
 refine ysg ⟨[E4, (7, vi 31)], [(6, (Ac p0))], H⟩ ?_
 refine Au ?_
 obtain ⟨e0, e1⟩ := Ar hF
 subst e0
 subst e1
 exact yp (.tup [.agg (Ac p0), vi 31])
 refine yF h2 ⟨L9, [B2, B3], H⟩ ?_
 refine Ao ?_
 refine Ag ?_
 obtain ⟨r3, c4, hF⟩ := Ab hF
 let E8 : EN := (28, .agg (Ac r3))
 refine Aj ⟨[E4, (7, vi 0)], [(6, (Ac r3))], H⟩ ?_ ?_
 refine yr 5 ⟨L9 ++ L12, [B2, B3], H⟩ ?_
 refine Ai ⟨L9 ++ L12 ++ [E8], [B2, B3], H⟩ (yc (some 28) true false (⟨L9 ++ L12, [B2, B3], H⟩ : St) (We H c4)) ?_
 refine yr 2 ⟨L9 ++ [(7, vi 0)] ++ L12 ++ [E8], [B2, (6, (Ac r3))], H⟩ ?_
 exact ye
 refine Au ?_
 obtain ⟨e0, e1⟩ := Ar hF
 subst e0
 subst e1
 exact yp (.tup [.agg (Ac r3), vi 0])
noncomputable def Kf  (p0 : T_ref03_Mem) (p1 : Int) : Option (Int × Int) :=
  if ((Int.tmod p1 4) != 0) = true then (some (0, 30))
  else (if (decide ((IntKind.wrap .i64 (IntKind.wrap .u32 (Int.tdiv p1 4))) ≥ (p0.W_.length : Int))) = true then (some (0, 31))
  else (Af (gi p0.W_ (IntKind.wrap .u32 (Int.tdiv p1 4))) fun x3 =>
  some (x3, 0)))
theorem Pk (H : Ah) {p0 : T_ref03_Mem} {p1 : Int} {ra : Int} {rb : Int} (hF : Kf p0 p1 = some (ra, rb)) : evS X 39 [.agg (Ac p0), .one .top (.int .u32 p1)] H = some (.tup [.one .top (.int .u32 ra), .one .top (.int .i64 rb)], H) := by
 let B1 : EB := (2, (Ac p0))
 let E2 : EN := (15, vb (decide ((IntKind.wrap .i64 (IntKind.wrap .u32 (Int.tdiv p1 4))) ≥ (p0.W_.length : Int))))
 let E3 : EN := (14, vi (p0.W_.length : Int))
 let L5 : List EN := [(1, vu p1), (2, vl 2 0)]
 let L6 : List EN := [(16, vl 2 5), (17, .one (.own 0) (.sl 1 (List.map (eI .u32) p0.W_))), (18, vu p1), (19, vu (IntKind.wrap .u32 (Int.tdiv p1 4)))]
 let L7 : List EN := L5 ++ [(9, vu p1), (10, vu (IntKind.wrap .u32 (Int.tdiv p1 4))), (11, vi (IntKind.wrap .i64 (IntKind.wrap .u32 (Int.tdiv p1 4)))), (12, vl 2 5), (13, .one (.own 0) (.sl 1 (List.map (eI .u32) p0.W_)))]
 refine yf Try.func39 true ⟨[(0, .agg (Ac p0)), (1, vu p1)], [], H⟩ ?_
 unfold Kf at hF
 refine ysg ⟨L5, [B1], H⟩ ?_
 refine Ag ?_
 refine ysg ⟨L5 ++ [(8, vb ((Int.tmod p1 4) != 0))], [B1], H⟩ ?_
 rcases Ae hF with ⟨h1, hF⟩ | ⟨h1, hF⟩
 refine yT h1 ⟨[], [], H⟩ ?_
 refine ysg ⟨[(4, vu 0), (5, vi 30)], [], H⟩ ?_
 refine Au ?_
 obtain ⟨e0, e1⟩ := Ar hF
 subst e0
 subst e1
 exact yp (.tup [vu 0, vi 30])
 refine yF h1 ⟨L5, [B1], H⟩ ?_
 refine Ao ?_
 refine Ag ?_
 refine yso ⟨L5 ++ [E2], [B1], H⟩ ?_ ?_
 refine yr 5 ⟨L7, [B1], H⟩ ?_
 refine Ai ⟨L7 ++ [E3], [B1], H⟩ (yl (⟨L7, [B1], H⟩ : St) p0.W_ (eI .u32) (some 14)) ?_
 refine yr 1 ⟨L7 ++ [E3, E2], [B1], H⟩ ?_
 exact ye
 rcases Ae hF with ⟨h2, hF⟩ | ⟨h2, hF⟩
 refine yT h2 ⟨[], [], H⟩ ?_
 refine ysg ⟨[(4, vu 0), (5, vi 31)], [], H⟩ ?_
 refine Au ?_
 obtain ⟨e0, e1⟩ := Ar hF
 subst e0
 subst e1
 exact yp (.tup [vu 0, vi 31])
 refine yF h2 ⟨L5, [B1], H⟩ ?_
 refine Ao ?_
 refine Ag ?_
 obtain ⟨x3, h4, hF⟩ := Ab hF
 let E4 : EN := (20, .one .top (.rd (.own 0) (.own 0) [.int .u32 x3] 0))
 refine Aj ⟨[(4, vu x3), (5, vi 0)], [], H⟩ ?_ ?_
 refine yr 4 ⟨L5 ++ L6, [B1], H⟩ ?_
 refine Ai ⟨L5 ++ L6 ++ [E4], [B1], H⟩ (P5 (X := X) (⟨L5 ++ L6, [B1], H⟩ : St) 42 35 1 h4 (eI .u32) (.own 0) (some 20) (by kernel_rfl) (by kernel_rfl) (by kernel_rfl) (by kernel_rfl)) ?_
 refine yr 3 ⟨L5 ++ [(4, vu x3), (5, vi 0)] ++ L6 ++ [E4, (21, vu x3)], [B1], H⟩ ?_
 exact ye
 refine Au ?_
 obtain ⟨e0, e1⟩ := Ar hF
 subst e0
 subst e1
 exact yp (.tup [vu x3, vi 0])
noncomputable def Gn  (p0 : T_ref03_Mem) (p1 : Int) : Option (Int × Int) :=
  Cc (Kf p0 p1) fun r1 r2 =>
  if ((r2 == 0) && (decide (p1 ≥ (p0.Ends_.g 0)))) = true then (some (0, 31))
  else (some (r1, r2))
theorem Y8 (H : Ah) {p0 : T_ref03_Mem} {p1 : Int} {ra : Int} {rb : Int} (hF : Gn p0 p1 = some (ra, rb)) : evS X 95 [.agg (Ac p0), .one .top (.int .u32 p1)] H = some (.tup [.one .top (.int .u32 ra), .one .top (.int .i64 rb)], H) := by
 let B1 : EB := (2, (Ac p0))
 let E2 : EN := (9, .agg (Ac p0))
 let E3 : EN := (10, vu p1)
 let L5 : List EN := [(1, vu p1), (2, vl 2 0)]
 refine yf Try.func95 true ⟨[(0, .agg (Ac p0)), (1, vu p1)], [], H⟩ ?_
 unfold Gn at hF
 refine ysg ⟨L5, [B1], H⟩ ?_
 refine Ag ?_
 obtain ⟨r1, r2, c3, hF⟩ := Be hF
 let E4 : EN := (11, .tup [vu r1, vi r2])
 let L6 : List EN := [(6, vu r1), (7, vi r2)]
 let L7 : List EN := L5 ++ L6 ++ [(14, vi r2)]
 refine Aj ⟨L5 ++ L6, [B1], H⟩ ?_ ?_
 refine yr 2 ⟨L5 ++ [E2, E3], [B1], H⟩ ?_
 refine Ai ⟨L5 ++ [E2, E3, E4], [B1], H⟩ (yc (some 11) true false (⟨L5 ++ [E2, E3], [B1], H⟩ : St) (Pk H c3)) ?_
 refine yr 5 ⟨L5 ++ L6 ++ [(8, .tup [vu r1, vi r2]), E2, E3, E4, (12, vu r1), (13, vi r2)], [B1], H⟩ ?_
 exact ye
 refine Ag ?_
 refine yso ⟨L6 ++ [(22, vb ((r2 == 0) && (decide (p1 ≥ (p0.Ends_.g 0)))))], [], H⟩ ?_ ?_
 refine yr 3 ⟨L7 ++ [(15, vb (r2 == 0)), (16, vb (r2 == 0))], [B1], H⟩ ?_
 rcases Ax (r2 == 0) with h4 | h4
 refine Bd (congrArg (fun q => (⟨L7 ++ [(15, vb q), (16, vb q)], [B1], H⟩ : St)) h4) ?_
 refine yr 6 ⟨L7 ++ [(15, vT), (16, vT), (17, vu p1), (18, vl 2 0), (19, vl 2 0), (20, vu (p0.Ends_.g 0)), (21, vb (decide (p1 ≥ (p0.Ends_.g 0)))), (22, vb (decide (p1 ≥ (p0.Ends_.g 0))))], [B1], H⟩ ?_
 refine Bw (congrArg (fun q0 => (⟨L6 ++ [(22, vb q0)], [], H⟩ : St)) (show (decide (p1 ≥ (p0.Ends_.g 0))) = ((r2 == 0) && (decide (p1 ≥ (p0.Ends_.g 0)))) by simp [h4])) ?_
 exact ye
 refine Bd (congrArg (fun q => (⟨L7 ++ [(15, vb q), (16, vb q)], [B1], H⟩ : St)) h4) ?_
 refine yr 6 ⟨L7 ++ [(15, vF), (16, vF), (17, vN), (18, vN), (19, vN), (20, vN), (21, vN), (22, vF)], [B1], H⟩ ?_
 refine Bw (congrArg (fun q0 => (⟨L6 ++ [(22, vb q0)], [], H⟩ : St)) (show false = ((r2 == 0) && (decide (p1 ≥ (p0.Ends_.g 0)))) by simp [h4])) ?_
 exact ye
 rcases Ae hF with ⟨h5, hF⟩ | ⟨h5, hF⟩
 refine yT h5 ⟨[], [], H⟩ ?_
 refine ysg ⟨[(4, vu 0), (5, vi 31)], [], H⟩ ?_
 refine Au ?_
 obtain ⟨e0, e1⟩ := Ar hF
 subst e0
 subst e1
 exact yp (.tup [vu 0, vi 31])
 refine yF h5 ⟨L6, [], H⟩ ?_
 refine Ao ?_
 refine ysg ⟨[(4, vu r1), (5, vi r2)], [], H⟩ ?_
 refine Au ?_
 obtain ⟨e0, e1⟩ := Ar hF
 subst e0
 subst e1
 exact yp (.tup [vu r1, vi r2])
noncomputable def Gp  (p0 : T_ref04_Cpu) (p1 : Int) : Option (T_ref04_Cpu) :=
  some (T_ref04_Cpu.mk p0.R_ p0.PC_ p0.EPC_ p0.Cause_ 2 p1 p0.Steps_ p0.Taken_ p0.Out_ p0.Entry_ p0.Vector_ p0.Guard_ p0.Limit_ p0.Input_)
theorem Hy (H : Ah) {p0 : T_ref04_Cpu} {p1 : Int} {ra : T_ref04_Cpu} (hF : Gp p0 p1 = some ra) : evS X 96 [.agg (Al p0), .one .top (.int .i64 p1)] H = some (.agg (Ak ra), H) := by
 let B1 : EB := (4, (List.replicate 19 (.top, .int .u32 0) ++ List.replicate 4 (.top, .int .i64 0) ++ [((.own 1), .sl 2 (List.map Ad ([] : List T_api_Event)))] ++ List.replicate 4 (.top, .int .u32 0) ++ [((.own 1), .sl 1 (List.map (eI .i32) ([] : List Int)))]))
 refine yf Try.func96 true ⟨[(0, .agg (Al p0)), (1, vi p1)], [], H⟩ ?_
 unfold Gp at hF
 refine ysg ⟨[(1, vi p1), (2, vl 2 0), (4, vl 4 0)], [(2, (Al p0)), B1], H⟩ ?_
 refine ysg ⟨[(2, vl 2 0), (4, vl 4 0)], [(2, (arM .u32 16 p0.R_ ++ [(.top, .int .u32 p0.PC_), (.top, .int .u32 p0.EPC_), (.top, .int .u32 p0.Cause_), (.top, .int .i64 2), (.top, .int .i64 p1), (.top, .int .i64 p0.Steps_), (.top, .int .i64 p0.Taken_), ((.own 1), .sl 2 (List.map Ad p0.Out_)), (.top, .int .u32 p0.Entry_), (.top, .int .u32 p0.Vector_), (.top, .int .u32 p0.Guard_), (.top, .int .u32 p0.Limit_), ((.own 0), .sl 1 (List.map (eI .i32) p0.Input_))])), B1], H⟩ ?_
 refine ysg ⟨[(4, vl 4 0)], [(4, (arM .u32 16 p0.R_ ++ [(.top, .int .u32 p0.PC_), (.top, .int .u32 p0.EPC_), (.top, .int .u32 p0.Cause_), (.top, .int .i64 2), (.top, .int .i64 p1), (.top, .int .i64 p0.Steps_), (.top, .int .i64 p0.Taken_), ((.own 1), .sl 2 (List.map Ad p0.Out_)), (.top, .int .u32 p0.Entry_), (.top, .int .u32 p0.Vector_), (.top, .int .u32 p0.Guard_), (.top, .int .u32 p0.Limit_), ((.own 0), .sl 1 (List.map (eI .i32) p0.Input_))]))], H⟩ ?_
 refine Au ?_
 obtain e0 := Am hF
 subst e0
 exact yp (.agg (arM .u32 16 p0.R_ ++ [(.top, .int .u32 p0.PC_), (.top, .int .u32 p0.EPC_), (.top, .int .u32 p0.Cause_), (.top, .int .i64 2), (.top, .int .i64 p1), (.top, .int .i64 p0.Steps_), (.top, .int .i64 p0.Taken_), ((.own 1), .sl 2 (List.map Ad p0.Out_)), (.top, .int .u32 p0.Entry_), (.top, .int .u32 p0.Vector_), (.top, .int .u32 p0.Guard_), (.top, .int .u32 p0.Limit_), ((.own 0), .sl 1 (List.map (eI .i32) p0.Input_))]))
noncomputable def Ds (p0 : Int) (a1 : Int) (a2 : Int) : Option ((Int × Int) ⊕ ((Int))) :=
  if (decide (a2 < p0)) = true then (some (Sum.inl ((IntKind.wrap .i64 (a1 * 2)), (IntKind.wrap .i64 (a2 + 1)))))
  else (some (Sum.inr a1))
noncomputable def Nl  (p0 : Int) : Option (Int) :=
  Af (Ik (fun (x : (Int × Int)) => Ds p0 x.1 x.2) (1, 0)) (fun b6 =>
  some b6)
theorem Y9 (H : Ah) {p0 : Int} {ra : Int} (hF : Nl p0 = some ra) : evS X 134 [.one .top (.int .i64 p0)] H = some (.one .top (.int .i64 ra), H) := by
 let E1 : EN := (0, vi p0)
 refine yf Try.func134 true ⟨[E1], [], H⟩ ?_
 unfold Nl at hF
 refine ysg ⟨[E1], [], H⟩ ?_
 refine ysg ⟨[E1, (3, vi 1)], [], H⟩ ?_
 refine Ag ?_
 refine ysg ⟨[E1, (3, vi 1), (4, vi 0)], [], H⟩ ?_
 refine Bt ?_
 obtain ⟨r4, hL5, hF⟩ := Ab hF
 refine Qn (fun (x : (Int × Int)) => (⟨[E1, (3, vi x.1), (4, vi x.2)], [], H⟩ : St)) (fun (y : (Int)) => ((.exit 0, (⟨[(3, vi y)], [], H⟩ : St)) : Ex × St)) hL5 (by kernel_rfl) ?_ ?_
 rintro ⟨a1, a2⟩ o hF
 replace hF : Ds p0 a1 a2 = some o := hF
 let E2 : EN := (3, vi (IntKind.wrap .i64 (a1 * 2)))
 unfold Ds at hF
 refine Ag ?_
 refine ysg ⟨[E1, (3, vi a1), (4, vi a2), (7, vb (decide (a2 < p0)))], [], H⟩ ?_
 rcases Ae hF with ⟨h3, hF⟩ | ⟨h3, hF⟩
 refine yT h3 ⟨[E1, (3, vi a1), (4, vi a2)], [], H⟩ ?_
 refine Ao ?_
 refine Ag ?_
 refine Bt ?_
 refine yg ⟨[E1, E2, (4, vi a2)], [], H⟩ ?_
 refine yg ⟨[E1, E2, (4, vi (IntKind.wrap .i64 (a2 + 1)))], [], H⟩ ?_
 cases hF
 exact ⟨_, rfl, (by kernel_rfl)⟩
 refine yF h3 ⟨[(3, vi a1)], [], H⟩ ?_
 refine Ph ?_
 cases hF
 exact ⟨_, rfl, (by kernel_rfl)⟩
 obtain ⟨b6, hy⟩ : ∃ y, y = r4 := ⟨_, rfl⟩
 subst hy
 refine bT (i := 0) (s := (⟨[(3, vi b6)], [], H⟩ : St)) (by kernel_rfl) ?_
 refine Qm ?_
 refine ysg ⟨[(2, vi b6)], [], H⟩ ?_
 refine Au ?_
 obtain e0 := Am hF
 subst e0
 exact yp (vi b6)
noncomputable def Hz (j2 : Int) : Option (Int) :=
  some (IntKind.wrap .i32 j2)
noncomputable def Ia (j1 : Int) : Option (Int) :=
  if (decide (j1 ≥ 2147483648)) = true then (Hz (IntKind.wrap .i64 (j1 - 4294967296)))
  else (Hz j1)
noncomputable def Ff  (p0 : Int) : Option (Int) :=
  if (decide ((Int.tmod p0 4294967296) < 0)) = true then (Ia (IntKind.wrap .i64 ((Int.tmod p0 4294967296) + 4294967296)))
  else (Ia (Int.tmod p0 4294967296))
theorem Mb (H : Ah) {p0 : Int} {ra : Int} (hF : Ff p0 = some ra) : evS X 71 [.one .top (.int .i64 p0)] H = some (.one .top (.int .i32 ra), H) := by
 let E1 : EN := (3, vi (Int.tmod p0 4294967296))
 let S2 : St := ⟨[E1], [], H⟩
 refine yf Try.func71 true ⟨[(0, vi p0)], [], H⟩ ?_
 unfold Ff at hF
 refine ysg ⟨[(0, vi p0)], [], H⟩ ?_
 refine ysg S2 ?_
 refine Ag ?_
 refine ysg ⟨[E1, (7, vb (decide ((Int.tmod p0 4294967296) < 0)))], [], H⟩ ?_
 refine As (α := (Int)) (fun x => (⟨[(3, vi x)], [], H⟩ : St)) (fun x => Ia x = some ra) ?_ ?_
 rintro j1 hF
 replace hF : Ia j1 = some ra := hF
 unfold Ia at hF
 refine Ag ?_
 refine ysg ⟨[(3, vi j1), (11, vb (decide (j1 ≥ 2147483648)))], [], H⟩ ?_
 refine As (α := (Int)) (fun x => (⟨[(3, vi x)], [], H⟩ : St)) (fun x => Hz x = some ra) ?_ ?_
 rintro j2 hF
 replace hF : Hz j2 = some ra := hF
 unfold Hz at hF
 refine ysg ⟨[(2, .one .top (.int .i32 (IntKind.wrap .i32 j2)))], [], H⟩ ?_
 refine Au ?_
 obtain e0 := Am hF
 subst e0
 exact yp (.one .top (.int .i32 (IntKind.wrap .i32 j2)))
 rcases Ae hF with ⟨h3, hF⟩ | ⟨h3, hF⟩
 refine yT h3 ⟨[(3, vi j1)], [], H⟩ ?_
 refine yg ⟨[(3, vi (IntKind.wrap .i64 (j1 - 4294967296)))], [], H⟩ ?_
 exact ⟨(IntKind.wrap .i64 (j1 - 4294967296)), hF, (by kernel_rfl)⟩
 refine yF h3 ⟨[(3, vi j1)], [], H⟩ ?_
 refine Ao ?_
 exact ⟨j1, hF, (by kernel_rfl)⟩
 rcases Ae hF with ⟨h4, hF⟩ | ⟨h4, hF⟩
 refine yT h4 S2 ?_
 refine yg ⟨[(3, vi (IntKind.wrap .i64 ((Int.tmod p0 4294967296) + 4294967296)))], [], H⟩ ?_
 exact ⟨(IntKind.wrap .i64 ((Int.tmod p0 4294967296) + 4294967296)), hF, (by kernel_rfl)⟩
 refine yF h4 S2 ?_
 refine Ao ?_
 exact ⟨(Int.tmod p0 4294967296), hF, (by kernel_rfl)⟩
noncomputable def D4 (j6 : Int) : Option (Int) :=
  Af (Ff j6) fun r7 =>
  some r7
noncomputable def Kg  (p0 : Int) (p1 : Int) : Option (Int) :=
  if (decide (p1 < 1)) = true then (some 0)
  else (Af (Nl (if 32 < p1 then 32 else p1)) fun r2 =>
  Af (Rm .i64 (IntKind.wrap .i64 p0) r2) fun v4 =>
  if (decide (v4 ≥ (IntKind.wrap .i64 (Int.tdiv r2 2)))) = true then (D4 (IntKind.wrap .i64 (v4 - r2)))
  else (D4 v4))
theorem Tc (H : Ah) {p0 : Int} {p1 : Int} {ra : Int} (hF : Kg p0 p1 = some ra) : evS X 115 [.one .top (.int .u32 p0), .one .top (.int .i64 p1)] H = some (.one .top (.int .i32 ra), H) := by
 let E1 : EN := (10, vi (if 32 < p1 then 32 else p1))
 let L7 : List EN := [(0, vu p0), (1, vi p1)]
 refine yf Try.func115 true ⟨L7, [], H⟩ ?_
 unfold Kg at hF
 refine ysg ⟨L7, [], H⟩ ?_
 refine Ag ?_
 refine ysg ⟨L7 ++ [(8, vb (decide (p1 < 1)))], [], H⟩ ?_
 rcases Ae hF with ⟨h1, hF⟩ | ⟨h1, hF⟩
 refine yT h1 ⟨[], [], H⟩ ?_
 refine ysg ⟨[(4, .one .top (.int .i32 0))], [], H⟩ ?_
 refine Au ?_
 obtain e0 := Am hF
 subst e0
 exact yp (.one .top (.int .i32 0))
 refine yF h1 ⟨L7, [], H⟩ ?_
 refine Ao ?_
 refine Ag ?_
 obtain ⟨r2, c3, hF⟩ := Ab hF
 let E2 : EN := (5, vi r2)
 let L8 : List EN := [(0, vu p0), E2]
 let L9 : List EN := [(12, vu p0), (13, vi (IntKind.wrap .i64 p0)), (14, vi r2)]
 refine Aj ⟨L8, [], H⟩ ?_ ?_
 refine yr 2 ⟨L7 ++ [(9, vi p1), E1], [], H⟩ ?_
 refine Ai ⟨L7 ++ [(9, vi p1), E1, (11, vi r2)], [], H⟩ (yc (some 11) true false (⟨L7 ++ [(9, vi p1), E1], [], H⟩ : St) (Y9 H c3)) ?_
 refine yr 1 ⟨L7 ++ [E2, (9, vi p1), E1, (11, vi r2)], [], H⟩ ?_
 exact ye
 refine Ag ?_
 obtain ⟨v4, h5, hF⟩ := Ab hF
 let E3 : EN := (6, vi v4)
 refine Aj ⟨[E2, E3], [], H⟩ ?_ ?_
 refine yr 3 ⟨L8 ++ L9, [], H⟩ ?_
 refine Ai ⟨L8 ++ L9 ++ [(15, vi v4)], [], H⟩ (Lx (⟨L8 ++ L9, [], H⟩ : St) .i64 h5 (bW (P := X.P) (ty := 3) (x := (.tmp 13)) (y := (.tmp 14)) (m := .top) (m' := .top) (k := .i64) (a := (IntKind.wrap .i64 p0)) (b := r2)) (some 15) (by kernel_rfl) (by kernel_rfl)) ?_
 refine yr 1 ⟨L8 ++ [E3] ++ L9 ++ [(15, vi v4)], [], H⟩ ?_
 exact ye
 refine Ag ?_
 refine ysg ⟨[E2, E3, (19, vb (decide (v4 ≥ (IntKind.wrap .i64 (Int.tdiv r2 2)))))], [], H⟩ ?_
 refine As (α := (Int)) (fun x => (⟨[(6, vi x)], [], H⟩ : St)) (fun x => D4 x = some ra) ?_ ?_
 rintro j6 hF
 replace hF : D4 j6 = some ra := hF
 let E5 : EN := (23, vi j6)
 let S10 : St := ⟨[(6, vi j6), E5], [], H⟩
 unfold D4 at hF
 refine Ag ?_
 obtain ⟨r7, c8, hF⟩ := Ab hF
 let E4 : EN := (4, .one .top (.int .i32 r7))
 let E6 : EN := (24, .one .top (.int .i32 r7))
 refine Aj ⟨[E4], [], H⟩ ?_ ?_
 refine yr 1 S10 ?_
 refine Ai ⟨[(6, vi j6), E5, E6], [], H⟩ (yc (some 24) true false S10 (Mb H c8)) ?_
 refine yr 1 ⟨[E4, (6, vi j6), E5, E6], [], H⟩ ?_
 exact ye
 refine Au ?_
 obtain e0 := Am hF
 subst e0
 exact yp (.one .top (.int .i32 r7))
 rcases Ae hF with ⟨h9, hF⟩ | ⟨h9, hF⟩
 refine yT h9 ⟨[E2, E3], [], H⟩ ?_
 refine yg ⟨[(6, vi (IntKind.wrap .i64 (v4 - r2)))], [], H⟩ ?_
 exact ⟨(IntKind.wrap .i64 (v4 - r2)), hF, (by kernel_rfl)⟩
 refine yF h9 ⟨[E3], [], H⟩ ?_
 refine Ao ?_
 exact ⟨v4, hF, (by kernel_rfl)⟩
noncomputable def Em (p0 : Int) (j11 : T_ref02_Instr) : Option (T_ref02_Instr × Int) :=
  Cc (Dq j11) fun r12 r13 =>
  if ((r13 != 0) || (r12 != p0)) = true then (some ((T_ref02_Instr.mk 0 0 0 0 0), 21))
  else (some (j11, 0))
noncomputable def Eo (p0 : Int) (j21 : T_ref02_Instr) : Option (T_ref02_Instr × Int) :=
  Em p0 j21
noncomputable def Ep (p0 : Int) (j23 : T_ref02_Instr) : Option (T_ref02_Instr × Int) :=
  Eo p0 j23
noncomputable def Eq (p0 : Int) (j9 : T_ref02_Instr) (r1 : Int) (j20 : Bool) : Option (T_ref02_Instr × Int) :=
  if j20 = true then (Eo p0 (T_ref02_Instr.mk j9.Op_ j9.A_ j9.B_ j9.C_ (IntKind.wrap .i64 (Int.tmod p0 65536))))
  else (if (r1 == 7) = true then (Af (Kg p0 24) fun r25 =>
  Ep p0 (T_ref02_Instr.mk j9.Op_ j9.A_ j9.B_ j9.C_ (IntKind.wrap .i64 r25)))
  else (Ep p0 j9))
noncomputable def Er (p0 : Int) (j9 : T_ref02_Instr) (r1 : Int) (j28 : Bool) : Option (T_ref02_Instr × Int) :=
  Eq p0 j9 r1 j28
noncomputable def Es (p0 : Int) (j9 : T_ref02_Instr) (r1 : Int) (j10 : Bool) : Option (T_ref02_Instr × Int) :=
  if j10 = true then (Af (Kg p0 16) fun r18 =>
  Em p0 (T_ref02_Instr.mk j9.Op_ j9.A_ j9.B_ j9.C_ (IntKind.wrap .i64 r18)))
  else (if (r1 == 2) = true then (Eq p0 j9 r1 (r1 == 2))
  else (if (r1 == 4) = true then (Er p0 j9 r1 (r1 == 4))
  else (Er p0 j9 r1 (r1 == 8))))
noncomputable def Et (r1 : Int) (p0 : Int) (j9 : T_ref02_Instr) : Option (T_ref02_Instr × Int) :=
  if (r1 == 1) = true then (Es p0 j9 r1 (r1 == 1))
  else (Es p0 j9 r1 (r1 == 3))
noncomputable def Eu (r5 : Bool) (r1 : Int) (p0 : Int) (j8 : T_ref02_Instr) : Option (T_ref02_Instr × Int) :=
  if r5 = true then (Et r1 p0 (T_ref02_Instr.mk j8.Op_ j8.A_ j8.B_ (IntKind.wrap .i64 (Int.tmod p0 16)) j8.Imm_))
  else (Et r1 p0 j8)
noncomputable def Ev (r4 : Bool) (r5 : Bool) (r1 : Int) (p0 : Int) (j7 : T_ref02_Instr) : Option (T_ref02_Instr × Int) :=
  if r4 = true then (Eu r5 r1 p0 (T_ref02_Instr.mk j7.Op_ j7.A_ (IntKind.wrap .i64 (Int.tmod (IntKind.wrap .u32 (Int.tdiv p0 65536)) 16)) j7.C_ j7.Imm_))
  else (Eu r5 r1 p0 j7)
noncomputable def Gq  (p0 : Int) : Option (T_ref02_Instr × Int) :=
  Af (Dw (IntKind.wrap .i64 (IntKind.wrap .u32 (Int.tdiv p0 16777216)))) fun r1 =>
  Vt (Ln r1) fun r3 r4 r5 =>
  if r3 = true then (Ev r4 r5 r1 p0 (T_ref02_Instr.mk (IntKind.wrap .i64 (IntKind.wrap .u32 (Int.tdiv p0 16777216))) (IntKind.wrap .i64 (Int.tmod (IntKind.wrap .u32 (Int.tdiv p0 1048576)) 16)) 0 0 0))
  else (Ev r4 r5 r1 p0 (T_ref02_Instr.mk (IntKind.wrap .i64 (IntKind.wrap .u32 (Int.tdiv p0 16777216))) 0 0 0 0))
theorem Wg (H : Ah) {p0 : Int} {ra : T_ref02_Instr} {rb : Int} (hF : Gq p0 = some (ra, rb)) : evS X 97 [.one .top (.int .u32 p0)] H = some (.tup [.agg [(.top, .int .i64 ra.Op_), (.top, .int .i64 ra.A_), (.top, .int .i64 ra.B_), (.top, .int .i64 ra.C_), (.top, .int .i64 ra.Imm_)], .one .top (.int .i64 rb)], H) := by
 let E1 : EN := (2, vl 2 0)
 let B2 : EB := (2, (List.replicate 5 (.top, .int .i64 0)))
 let B3 : EB := (4, ([(.top, .int .i64 (IntKind.wrap .i64 (IntKind.wrap .u32 (Int.tdiv p0 16777216))))] ++ List.replicate 4 (.top, .int .i64 0)))
 let E4 : EN := (15, vl 4 0)
 let E5 : EN := (16, vi (IntKind.wrap .i64 (IntKind.wrap .u32 (Int.tdiv p0 16777216))))
 let E15 : EN := (45, vu p0)
 let E18 : EN := (59, vu p0)
 let L20 : List EN := [E1, (4, vl 4 0)]
 let L21 : List EN := [(0, vu p0)] ++ L20
 refine yf Try.func97 true ⟨[(0, vu p0)], [], H⟩ ?_
 unfold Gq at hF
 refine ysg ⟨[(0, vu p0), E1], [B2], H⟩ ?_
 refine ysg ⟨L21, [B2, B3], H⟩ ?_
 refine Ag ?_
 obtain ⟨r1, c2, hF⟩ := Ab hF
 let E6 : EN := (19, vi r1)
 let L22 : List EN := L21 ++ [(5, vi r1)]
 let L23 : List EN := L21 ++ [(41, vi r1)]
 refine Aj ⟨L22, [B2, B3], H⟩ ?_ ?_
 refine yr 2 ⟨L21 ++ [E4, E5], [B2, B3], H⟩ ?_
 refine Ai ⟨L21 ++ [E4, E5, (17, vi r1)], [B2, B3], H⟩ (yc (some 17) true false (⟨L21 ++ [E4, E5], [B2, B3], H⟩ : St) (Oy H c2)) ?_
 refine yr 1 ⟨L22 ++ [E4, E5, (17, vi r1)], [B2, B3], H⟩ ?_
 exact ye
 refine Ag ?_
 obtain ⟨r3, r4, r5, c6, hF⟩ := R6 hF
 let E7 : EN := (20, .tup [vb r3, vb r4, vb r5])
 let L24 : List EN := L22 ++ [(7, vb r4), (8, vb r5)]
 let L25 : List EN := L22 ++ [(8, vb r5)]
 refine Aj ⟨L22 ++ [(6, vb r3), (7, vb r4), (8, vb r5)], [B2, B3], H⟩ ?_ ?_
 refine yr 1 ⟨L22 ++ [E6], [B2, B3], H⟩ ?_
 refine Ai ⟨L22 ++ [E6, E7], [B2, B3], H⟩ (yc (some 20) true false (⟨L22 ++ [E6], [B2, B3], H⟩ : St) (Ur H c6)) ?_
 refine yr 7 ⟨L22 ++ [(6, vb r3), (7, vb r4), (8, vb r5), (18, .tup [vb r3, vb r4, vb r5]), E6, E7, (21, vb r3), (22, vb r4), (23, vb r5)], [B2, B3], H⟩ ?_
 exact ye
 refine Ag ?_
 refine ysg ⟨L24 ++ [(24, vb r3)], [B2, B3], H⟩ ?_
 refine As (α := (T_ref02_Instr)) (fun x => (⟨L24, [B2, (4, (Az x))], H⟩ : St)) (fun x => Ev r4 r5 r1 p0 x = some (ra, rb)) ?_ ?_
 rintro j7 hF
 replace hF : Ev r4 r5 r1 p0 j7 = some (ra, rb) := hF
 let B8 : EB := (4, (Az j7))
 unfold Ev at hF
 refine Ag ?_
 refine ysg ⟨L25 ++ [(30, vb r4)], [B2, B8], H⟩ ?_
 refine As (α := (T_ref02_Instr)) (fun x => (⟨L25, [B2, (4, (Az x))], H⟩ : St)) (fun x => Eu r5 r1 p0 x = some (ra, rb)) ?_ ?_
 rintro j8 hF
 replace hF : Eu r5 r1 p0 j8 = some (ra, rb) := hF
 let B9 : EB := (4, (Az j8))
 unfold Eu at hF
 refine Ag ?_
 refine ysg ⟨L22 ++ [(36, vb r5)], [B2, B9], H⟩ ?_
 refine As (α := (T_ref02_Instr)) (fun x => (⟨L22, [B2, (4, (Az x))], H⟩ : St)) (fun x => Et r1 p0 x = some (ra, rb)) ?_ ?_
 rintro j9 hF
 replace hF : Et r1 p0 j9 = some (ra, rb) := hF
 let B10 : EB := (4, (Az j9))
 unfold Et at hF
 refine Ag ?_
 refine ysg ⟨L23, [B2, B10], H⟩ ?_
 refine Bt ?_
 refine Ag ?_
 refine ysg ⟨L23 ++ [(42, vb (r1 == 1))], [B2, B10], H⟩ ?_
 refine As (α := (Bool)) (fun x => (⟨L23 ++ [(42, vb x)], [B2, B10], H⟩ : St)) (fun x => Es p0 j9 r1 x = some (ra, rb)) ?_ ?_
 rintro j10 hF
 replace hF : Es p0 j9 r1 j10 = some (ra, rb) := hF
 unfold Es at hF
 refine As (α := (T_ref02_Instr)) (fun x => (⟨L21, [B2, (4, (Az x))], H⟩ : St)) (fun x => Em p0 x = some (ra, rb)) ?_ ?_
 rintro j11 hF
 replace hF : Em p0 j11 = some (ra, rb) := hF
 let B11 : EB := (4, (Az j11))
 let E12 : EN := (64, .agg (Az j11))
 unfold Em at hF
 refine Ag ?_
 obtain ⟨r12, r13, c14, hF⟩ := Be hF
 let E13 : EN := (65, .tup [vu r12, vi r13])
 let L26 : List EN := L21 ++ [(9, vu r12), (10, vi r13), (68, vi r13)]
 refine Aj ⟨L21 ++ [(9, vu r12), (10, vi r13)], [B2, B11], H⟩ ?_ ?_
 refine yr 1 ⟨L21 ++ [E12], [B2, B11], H⟩ ?_
 refine Ai ⟨L21 ++ [E12, E13], [B2, B11], H⟩ (yc (some 65) true false (⟨L21 ++ [E12], [B2, B11], H⟩ : St) (Qy H c14)) ?_
 refine yr 5 ⟨L21 ++ [(9, vu r12), (10, vi r13), (63, .tup [vu r12, vi r13]), E12, E13, (66, vu r12), (67, vi r13)], [B2, B11], H⟩ ?_
 exact ye
 refine Ag ?_
 refine yso ⟨L20 ++ [(74, vb ((r13 != 0) || (r12 != p0)))], [B2, B11], H⟩ ?_ ?_
 refine yr 3 ⟨L26 ++ [(69, vb (r13 != 0)), (70, vb (r13 != 0))], [B2, B11], H⟩ ?_
 rcases Ax (r13 != 0) with h15 | h15
 refine Bd (congrArg (fun q => (⟨L26 ++ [(69, vb q), (70, vb q)], [B2, B11], H⟩ : St)) h15) ?_
 refine yr 4 ⟨L26 ++ [(69, vT), (70, vT), (71, vN), (72, vN), (73, vN), (74, vT)], [B2, B11], H⟩ ?_
 refine Bw (congrArg (fun q0 => (⟨L20 ++ [(74, vb q0)], [B2, B11], H⟩ : St)) (show true = ((r13 != 0) || (r12 != p0)) by simp [h15])) ?_
 exact ye
 refine Bd (congrArg (fun q => (⟨L26 ++ [(69, vb q), (70, vb q)], [B2, B11], H⟩ : St)) h15) ?_
 refine yr 4 ⟨L26 ++ [(69, vF), (70, vF), (71, vu r12), (72, vu p0), (73, vb (r12 != p0)), (74, vb (r12 != p0))], [B2, B11], H⟩ ?_
 refine Bw (congrArg (fun q0 => (⟨L20 ++ [(74, vb q0)], [B2, B11], H⟩ : St)) (show (r12 != p0) = ((r13 != 0) || (r12 != p0)) by simp [h15])) ?_
 exact ye
 rcases Ae hF with ⟨h16, hF⟩ | ⟨h16, hF⟩
 refine yT h16 ⟨[E1], [B2], H⟩ ?_
 refine ysg ⟨[E1, (3, vi 21)], [B2], H⟩ ?_
 refine Au ?_
 obtain ⟨e0, e1⟩ := Ar hF
 subst e0
 subst e1
 exact yp (.tup [.agg (List.replicate 5 (.top, .int .i64 0)), vi 21])
 refine yF h16 ⟨L20, [B2, B11], H⟩ ?_
 refine Ao ?_
 refine ysg ⟨[E1, (3, vi 0)], [(2, (Az j11))], H⟩ ?_
 refine Au ?_
 obtain ⟨e0, e1⟩ := Ar hF
 subst e0
 subst e1
 exact yp (.tup [.agg (Az j11), vi 0])
 rcases Ae hF with ⟨h17, hF⟩ | ⟨h17, hF⟩
 refine yT h17 ⟨L21, [B2, B10], H⟩ ?_
 obtain ⟨r18, c19, hF⟩ := Ab hF
 let B14 : EB := (4, [(.top, .int .i64 j9.Op_), (.top, .int .i64 j9.A_), (.top, .int .i64 j9.B_), (.top, .int .i64 j9.C_), (.top, .int .i64 (IntKind.wrap .i64 r18))])
 let E16 : EN := (46, .one .top (.int .i32 r18))
 refine Aj ⟨L21, [B2, B14], H⟩ ?_ ?_
 refine yr 1 ⟨L21 ++ [E15], [B2, B10], H⟩ ?_
 refine Ai ⟨L21 ++ [E15, E16], [B2, B10], H⟩ (yc (some 46) true false (⟨L21 ++ [E15], [B2, B10], H⟩ : St) (Tc H c19)) ?_
 refine yr 3 ⟨L21 ++ [E15, E16, (47, vi (IntKind.wrap .i64 r18)), (48, vl 4 4)], [B2, B14], H⟩ ?_
 exact ye
 exact ⟨(T_ref02_Instr.mk j9.Op_ j9.A_ j9.B_ j9.C_ (IntKind.wrap .i64 r18)), hF, (by kernel_rfl)⟩
 refine yF h17 ⟨L23, [B2, B10], H⟩ ?_
 refine Ag ?_
 refine ysg ⟨L23 ++ [(49, vb (r1 == 2))], [B2, B10], H⟩ ?_
 refine As (α := (Bool)) (fun x => (⟨L23 ++ [(49, vb x)], [B2, B10], H⟩ : St)) (fun x => Eq p0 j9 r1 x = some (ra, rb)) ?_ ?_
 rintro j20 hF
 replace hF : Eq p0 j9 r1 j20 = some (ra, rb) := hF
 unfold Eq at hF
 refine As (α := (T_ref02_Instr)) (fun x => (⟨L21, [B2, (4, (Az x))], H⟩ : St)) (fun x => Eo p0 x = some (ra, rb)) ?_ ?_
 rintro j21 hF
 replace hF : Eo p0 j21 = some (ra, rb) := hF
 unfold Eo at hF
 exact ⟨j21, hF, (by kernel_rfl)⟩
 rcases Ae hF with ⟨h22, hF⟩ | ⟨h22, hF⟩
 refine yT h22 ⟨L21, [B2, B10], H⟩ ?_
 refine yg ⟨L21, [B2, (4, [(.top, .int .i64 j9.Op_), (.top, .int .i64 j9.A_), (.top, .int .i64 j9.B_), (.top, .int .i64 j9.C_), (.top, .int .i64 (IntKind.wrap .i64 (Int.tmod p0 65536)))])], H⟩ ?_
 exact ⟨(T_ref02_Instr.mk j9.Op_ j9.A_ j9.B_ j9.C_ (IntKind.wrap .i64 (Int.tmod p0 65536))), hF, (by kernel_rfl)⟩
 refine yF h22 ⟨L23, [B2, B10], H⟩ ?_
 refine ysg ⟨L21 ++ [(57, vb (r1 == 7))], [B2, B10], H⟩ ?_
 refine As (α := (T_ref02_Instr)) (fun x => (⟨L21, [B2, (4, (Az x))], H⟩ : St)) (fun x => Ep p0 x = some (ra, rb)) ?_ ?_
 rintro j23 hF
 replace hF : Ep p0 j23 = some (ra, rb) := hF
 unfold Ep at hF
 exact ⟨j23, hF, (by kernel_rfl)⟩
 rcases Ae hF with ⟨h24, hF⟩ | ⟨h24, hF⟩
 refine yT h24 ⟨L21, [B2, B10], H⟩ ?_
 obtain ⟨r25, c26, hF⟩ := Ab hF
 let B17 : EB := (4, [(.top, .int .i64 j9.Op_), (.top, .int .i64 j9.A_), (.top, .int .i64 j9.B_), (.top, .int .i64 j9.C_), (.top, .int .i64 (IntKind.wrap .i64 r25))])
 let E19 : EN := (60, .one .top (.int .i32 r25))
 refine Aj ⟨L21, [B2, B17], H⟩ ?_ ?_
 refine yr 1 ⟨L21 ++ [E18], [B2, B10], H⟩ ?_
 refine Ai ⟨L21 ++ [E18, E19], [B2, B10], H⟩ (yc (some 60) true false (⟨L21 ++ [E18], [B2, B10], H⟩ : St) (Tc H c26)) ?_
 refine yr 3 ⟨L21 ++ [E18, E19, (61, vi (IntKind.wrap .i64 r25)), (62, vl 4 4)], [B2, B17], H⟩ ?_
 exact ye
 exact ⟨(T_ref02_Instr.mk j9.Op_ j9.A_ j9.B_ j9.C_ (IntKind.wrap .i64 r25)), hF, (by kernel_rfl)⟩
 refine yF h24 ⟨L21, [B2, B10], H⟩ ?_
 refine Ao ?_
 exact ⟨j9, hF, (by kernel_rfl)⟩
 rcases Ae hF with ⟨h27, hF⟩ | ⟨h27, hF⟩
 refine yT h27 ⟨L23 ++ [(49, vb (r1 == 2))], [B2, B10], H⟩ ?_
 refine Ao ?_
 exact ⟨(r1 == 2), hF, (by kernel_rfl)⟩
 refine yF h27 ⟨L23, [B2, B10], H⟩ ?_
 refine ysg ⟨L23 ++ [(49, vb (r1 == 4))], [B2, B10], H⟩ ?_
 refine As (α := (Bool)) (fun x => (⟨L23 ++ [(49, vb x)], [B2, B10], H⟩ : St)) (fun x => Er p0 j9 r1 x = some (ra, rb)) ?_ ?_
 rintro j28 hF
 replace hF : Er p0 j9 r1 j28 = some (ra, rb) := hF
 unfold Er at hF
 exact ⟨j28, hF, (by kernel_rfl)⟩
 rcases Ae hF with ⟨h29, hF⟩ | ⟨h29, hF⟩
 refine yT h29 ⟨L23 ++ [(49, vb (r1 == 4))], [B2, B10], H⟩ ?_
 refine Ao ?_
 exact ⟨(r1 == 4), hF, (by kernel_rfl)⟩
 refine yF h29 ⟨L23, [B2, B10], H⟩ ?_
 refine yg ⟨L23 ++ [(49, vb (r1 == 8))], [B2, B10], H⟩ ?_
 exact ⟨(r1 == 8), hF, (by kernel_rfl)⟩
 rcases Ae hF with ⟨h30, hF⟩ | ⟨h30, hF⟩
 refine yT h30 ⟨L23 ++ [(42, vb (r1 == 1))], [B2, B10], H⟩ ?_
 refine Ao ?_
 exact ⟨(r1 == 1), hF, (by kernel_rfl)⟩
 refine yF h30 ⟨L23, [B2, B10], H⟩ ?_
 refine yg ⟨L23 ++ [(42, vb (r1 == 3))], [B2, B10], H⟩ ?_
 exact ⟨(r1 == 3), hF, (by kernel_rfl)⟩
 rcases Ae hF with ⟨h31, hF⟩ | ⟨h31, hF⟩
 refine yT h31 ⟨L22, [B2, B9], H⟩ ?_
 refine yg ⟨L22, [B2, (4, [(.top, .int .i64 j8.Op_), (.top, .int .i64 j8.A_), (.top, .int .i64 j8.B_), (.top, .int .i64 (IntKind.wrap .i64 (Int.tmod p0 16))), (.top, .int .i64 j8.Imm_)])], H⟩ ?_
 exact ⟨(T_ref02_Instr.mk j8.Op_ j8.A_ j8.B_ (IntKind.wrap .i64 (Int.tmod p0 16)) j8.Imm_), hF, (by kernel_rfl)⟩
 refine yF h31 ⟨L22, [B2, B9], H⟩ ?_
 refine Ao ?_
 exact ⟨j8, hF, (by kernel_rfl)⟩
 rcases Ae hF with ⟨h32, hF⟩ | ⟨h32, hF⟩
 refine yT h32 ⟨L25, [B2, B8], H⟩ ?_
 refine yg ⟨L25, [B2, (4, [(.top, .int .i64 j7.Op_), (.top, .int .i64 j7.A_), (.top, .int .i64 (IntKind.wrap .i64 (Int.tmod (IntKind.wrap .u32 (Int.tdiv p0 65536)) 16))), (.top, .int .i64 j7.C_), (.top, .int .i64 j7.Imm_)])], H⟩ ?_
 exact ⟨(T_ref02_Instr.mk j7.Op_ j7.A_ (IntKind.wrap .i64 (Int.tmod (IntKind.wrap .u32 (Int.tdiv p0 65536)) 16)) j7.C_ j7.Imm_), hF, (by kernel_rfl)⟩
 refine yF h32 ⟨L25, [B2, B8], H⟩ ?_
 refine Ao ?_
 exact ⟨j7, hF, (by kernel_rfl)⟩
 rcases Ae hF with ⟨h33, hF⟩ | ⟨h33, hF⟩
 refine yT h33 ⟨L24, [B2, B3], H⟩ ?_
 refine yg ⟨L24, [B2, (4, [(.top, .int .i64 (IntKind.wrap .i64 (IntKind.wrap .u32 (Int.tdiv p0 16777216)))), (.top, .int .i64 (IntKind.wrap .i64 (Int.tmod (IntKind.wrap .u32 (Int.tdiv p0 1048576)) 16))), (.top, .int .i64 0), (.top, .int .i64 0), (.top, .int .i64 0)])], H⟩ ?_
 exact ⟨(T_ref02_Instr.mk (IntKind.wrap .i64 (IntKind.wrap .u32 (Int.tdiv p0 16777216))) (IntKind.wrap .i64 (Int.tmod (IntKind.wrap .u32 (Int.tdiv p0 1048576)) 16)) 0 0 0), hF, (by kernel_rfl)⟩
 refine yF h33 ⟨L24, [B2, B3], H⟩ ?_
 refine Ao ?_
 exact ⟨(T_ref02_Instr.mk (IntKind.wrap .i64 (IntKind.wrap .u32 (Int.tdiv p0 16777216))) 0 0 0 0), hF, (by kernel_rfl)⟩
noncomputable def Pb  (p0 : Int) (p1 : Int) : Option (Int) :=
  Af (Ff (IntKind.wrap .i64 ((IntKind.wrap .i64 p0) * (IntKind.wrap .i64 p1)))) fun r1 =>
  some r1
theorem Za (H : Ah) {p0 : Int} {p1 : Int} {ra : Int} (hF : Pb p0 p1 = some ra) : evS X 72 [.one .top (.int .i32 p0), .one .top (.int .i32 p1)] H = some (.one .top (.int .i32 ra), H) := by
 let L3 : List EN := [(0, .one .top (.int .i32 p0)), (1, .one .top (.int .i32 p1))]
 let L4 : List EN := [(5, .one .top (.int .i32 p0)), (6, vi (IntKind.wrap .i64 p0)), (7, .one .top (.int .i32 p1)), (8, vi (IntKind.wrap .i64 p1)), (9, vi (IntKind.wrap .i64 ((IntKind.wrap .i64 p0) * (IntKind.wrap .i64 p1))))]
 refine yf Try.func72 true ⟨L3, [], H⟩ ?_
 unfold Pb at hF
 refine ysg ⟨L3, [], H⟩ ?_
 refine Ag ?_
 obtain ⟨r1, c2, hF⟩ := Ab hF
 let E1 : EN := (4, .one .top (.int .i32 r1))
 let E2 : EN := (10, .one .top (.int .i32 r1))
 refine Aj ⟨[E1], [], H⟩ ?_ ?_
 refine yr 5 ⟨L3 ++ L4, [], H⟩ ?_
 refine Ai ⟨L3 ++ L4 ++ [E2], [], H⟩ (yc (some 10) true false (⟨L3 ++ L4, [], H⟩ : St) (Mb H c2)) ?_
 refine yr 1 ⟨L3 ++ [E1] ++ L4 ++ [E2], [], H⟩ ?_
 exact ye
 refine Au ?_
 obtain e0 := Am hF
 subst e0
 exact yp (.one .top (.int .i32 r1))
noncomputable def Fc (j5 : Int) : Option (Int × Bool) :=
  Af (Ff j5) fun r6 =>
  some (r6, true)
noncomputable def Ib  (p0 : Int) (p1 : Int) : Option (Int × Bool) :=
  if (p1 == 0) = true then (some (0, false))
  else (Af (Zo .i64 (IntKind.wrap .i64 p0) (IntKind.wrap .i64 p1)) fun v2 =>
  if (((IntKind.wrap .i64 (v2 * (IntKind.wrap .i64 p1))) != (IntKind.wrap .i64 p0)) && ((decide ((IntKind.wrap .i64 p0) < 0)) != (decide ((IntKind.wrap .i64 p1) < 0)))) = true then (Fc (IntKind.wrap .i64 (v2 - 1)))
  else (Fc v2))
theorem Us (H : Ah) {p0 : Int} {p1 : Int} {ra : Int} {rb : Bool} (hF : Ib p0 p1 = some (ra, rb)) : evS X 73 [.one .top (.int .i32 p0), .one .top (.int .i32 p1)] H = some (.tup [.one .top (.int .i32 ra), .one .top (.bool rb)], H) := by
 let E1 : EN := (0, .one .top (.int .i32 p0))
 let E2 : EN := (1, .one .top (.int .i32 p1))
 let E3 : EN := (6, vi (IntKind.wrap .i64 p0))
 let E4 : EN := (7, vi (IntKind.wrap .i64 p1))
 let E6 : EN := (15, vi (IntKind.wrap .i64 p0))
 let E7 : EN := (16, vi (IntKind.wrap .i64 p1))
 let L12 : List EN := [E3, E4, E6, E7]
 let S13 : St := ⟨[E1, E2], [], H⟩
 refine yf Try.func73 true S13 ?_
 unfold Ib at hF
 refine ysg S13 ?_
 refine Ag ?_
 refine ysg ⟨[E1, E2, (10, vb (p1 == 0))], [], H⟩ ?_
 rcases Ae hF with ⟨h1, hF⟩ | ⟨h1, hF⟩
 refine yT h1 ⟨[], [], H⟩ ?_
 refine ysg ⟨[(4, .one .top (.int .i32 0)), (5, vF)], [], H⟩ ?_
 refine Au ?_
 obtain ⟨e0, e1⟩ := Ar hF
 subst e0
 subst e1
 exact yp (.tup [.one .top (.int .i32 0), vF])
 refine yF h1 S13 ?_
 refine Ao ?_
 refine ysg ⟨[E3, E4], [], H⟩ ?_
 refine Ag ?_
 obtain ⟨v2, h3, hF⟩ := Ab hF
 let E5 : EN := (8, vi v2)
 let L11 : List EN := [E3, E4, E5, (18, vi v2), (19, vi (IntKind.wrap .i64 p1)), (20, vi (IntKind.wrap .i64 (v2 * (IntKind.wrap .i64 p1)))), (21, vi (IntKind.wrap .i64 p0))]
 refine Aj ⟨[E3, E4, E5], [], H⟩ ?_ ?_
 refine yr 2 ⟨L12, [], H⟩ ?_
 refine Ai ⟨L12 ++ [(17, vi v2)], [], H⟩ (Lx (⟨L12, [], H⟩ : St) .i64 h3 (mC (P := X.P) (ty := 3) (x := (.tmp 15)) (y := (.tmp 16)) (m := .top) (m' := .top) (k := .i64) (a := (IntKind.wrap .i64 p0)) (b := (IntKind.wrap .i64 p1))) (some 17) (by kernel_rfl) (by kernel_rfl)) ?_
 refine yr 1 ⟨[E3, E4, E5, E6, E7, (17, vi v2)], [], H⟩ ?_
 exact ye
 refine Ag ?_
 refine yso ⟨[E5, (29, vb (((IntKind.wrap .i64 (v2 * (IntKind.wrap .i64 p1))) != (IntKind.wrap .i64 p0)) && ((decide ((IntKind.wrap .i64 p0) < 0)) != (decide ((IntKind.wrap .i64 p1) < 0)))))], [], H⟩ ?_ ?_
 refine yr 6 ⟨L11 ++ [(22, vb ((IntKind.wrap .i64 (v2 * (IntKind.wrap .i64 p1))) != (IntKind.wrap .i64 p0))), (23, vb ((IntKind.wrap .i64 (v2 * (IntKind.wrap .i64 p1))) != (IntKind.wrap .i64 p0)))], [], H⟩ ?_
 rcases Ax ((IntKind.wrap .i64 (v2 * (IntKind.wrap .i64 p1))) != (IntKind.wrap .i64 p0)) with h4 | h4
 refine Bd (congrArg (fun q => (⟨L11 ++ [(22, vb q), (23, vb q)], [], H⟩ : St)) h4) ?_
 refine yr 6 ⟨L11 ++ [(22, vT), (23, vT), (24, vi (IntKind.wrap .i64 p0)), (25, vb (decide ((IntKind.wrap .i64 p0) < 0))), (26, vi (IntKind.wrap .i64 p1)), (27, vb (decide ((IntKind.wrap .i64 p1) < 0))), (28, vb ((decide ((IntKind.wrap .i64 p0) < 0)) != (decide ((IntKind.wrap .i64 p1) < 0)))), (29, vb ((decide ((IntKind.wrap .i64 p0) < 0)) != (decide ((IntKind.wrap .i64 p1) < 0))))], [], H⟩ ?_
 refine Bw (congrArg (fun q0 => (⟨[E5, (29, vb q0)], [], H⟩ : St)) (show ((decide ((IntKind.wrap .i64 p0) < 0)) != (decide ((IntKind.wrap .i64 p1) < 0))) = (((IntKind.wrap .i64 (v2 * (IntKind.wrap .i64 p1))) != (IntKind.wrap .i64 p0)) && ((decide ((IntKind.wrap .i64 p0) < 0)) != (decide ((IntKind.wrap .i64 p1) < 0)))) by simp [h4])) ?_
 exact ye
 refine Bd (congrArg (fun q => (⟨L11 ++ [(22, vb q), (23, vb q)], [], H⟩ : St)) h4) ?_
 refine yr 6 ⟨L11 ++ [(22, vF), (23, vF), (24, vN), (25, vN), (26, vN), (27, vN), (28, vN), (29, vF)], [], H⟩ ?_
 refine Bw (congrArg (fun q0 => (⟨[E5, (29, vb q0)], [], H⟩ : St)) (show false = (((IntKind.wrap .i64 (v2 * (IntKind.wrap .i64 p1))) != (IntKind.wrap .i64 p0)) && ((decide ((IntKind.wrap .i64 p0) < 0)) != (decide ((IntKind.wrap .i64 p1) < 0)))) by simp [h4])) ?_
 exact ye
 refine As (α := (Int)) (fun x => (⟨[(8, vi x)], [], H⟩ : St)) (fun x => Fc x = some (ra, rb)) ?_ ?_
 rintro j5 hF
 replace hF : Fc j5 = some (ra, rb) := hF
 let E9 : EN := (32, vi j5)
 let S14 : St := ⟨[(8, vi j5), E9], [], H⟩
 unfold Fc at hF
 refine Ag ?_
 obtain ⟨r6, c7, hF⟩ := Ab hF
 let E8 : EN := (4, .one .top (.int .i32 r6))
 let E10 : EN := (33, .one .top (.int .i32 r6))
 refine Aj ⟨[E8, (5, vT)], [], H⟩ ?_ ?_
 refine yr 1 S14 ?_
 refine Ai ⟨[(8, vi j5), E9, E10], [], H⟩ (yc (some 33) true false S14 (Mb H c7)) ?_
 refine yr 2 ⟨[E8, (5, vT), (8, vi j5), E9, E10], [], H⟩ ?_
 exact ye
 refine Au ?_
 obtain ⟨e0, e1⟩ := Ar hF
 subst e0
 subst e1
 exact yp (.tup [.one .top (.int .i32 r6), vT])
 rcases Ae hF with ⟨h8, hF⟩ | ⟨h8, hF⟩
 refine yT h8 ⟨[E5], [], H⟩ ?_
 refine yg ⟨[(8, vi (IntKind.wrap .i64 (v2 - 1)))], [], H⟩ ?_
 exact ⟨(IntKind.wrap .i64 (v2 - 1)), hF, (by kernel_rfl)⟩
 refine yF h8 ⟨[E5], [], H⟩ ?_
 refine Ao ?_
 exact ⟨v2, hF, (by kernel_rfl)⟩
noncomputable def My  (p0 : Int) (p1 : Int) : Option (Int × Bool) :=
  Cc (Ib p0 p1) fun r1 r2 =>
  if (!r2) = true then (some (0, false))
  else (Af (Ff (IntKind.wrap .i64 ((IntKind.wrap .i64 p0) - (IntKind.wrap .i64 ((IntKind.wrap .i64 r1) * (IntKind.wrap .i64 p1)))))) fun r5 =>
  some (r5, true))
theorem cI (H : Ah) {p0 : Int} {p1 : Int} {ra : Int} {rb : Bool} (hF : My p0 p1 = some (ra, rb)) : evS X 74 [.one .top (.int .i32 p0), .one .top (.int .i32 p1)] H = some (.tup [.one .top (.int .i32 ra), .one .top (.bool rb)], H) := by
 let E1 : EN := (9, .one .top (.int .i32 p0))
 let E2 : EN := (10, .one .top (.int .i32 p1))
 let L7 : List EN := [(0, .one .top (.int .i32 p0)), (1, .one .top (.int .i32 p1))]
 refine yf Try.func74 true ⟨L7, [], H⟩ ?_
 unfold My at hF
 refine ysg ⟨L7, [], H⟩ ?_
 refine Ag ?_
 obtain ⟨r1, r2, c3, hF⟩ := Be hF
 let E3 : EN := (11, .tup [.one .top (.int .i32 r1), vb r2])
 let E6 : EN := (6, .one .top (.int .i32 r1))
 let L8 : List EN := L7 ++ [E6]
 let L9 : List EN := [(16, .one .top (.int .i32 p0)), (17, vi (IntKind.wrap .i64 p0)), (18, .one .top (.int .i32 r1)), (19, vi (IntKind.wrap .i64 r1)), (20, .one .top (.int .i32 p1)), (21, vi (IntKind.wrap .i64 p1)), (22, vi (IntKind.wrap .i64 ((IntKind.wrap .i64 r1) * (IntKind.wrap .i64 p1)))), (23, vi (IntKind.wrap .i64 ((IntKind.wrap .i64 p0) - (IntKind.wrap .i64 ((IntKind.wrap .i64 r1) * (IntKind.wrap .i64 p1))))))]
 refine Aj ⟨L8 ++ [(7, vb r2)], [], H⟩ ?_ ?_
 refine yr 2 ⟨L7 ++ [E1, E2], [], H⟩ ?_
 refine Ai ⟨L7 ++ [E1, E2, E3], [], H⟩ (yc (some 11) true false (⟨L7 ++ [E1, E2], [], H⟩ : St) (Us H c3)) ?_
 refine yr 5 ⟨L8 ++ [(7, vb r2), (8, .tup [.one .top (.int .i32 r1), vb r2]), E1, E2, E3, (12, .one .top (.int .i32 r1)), (13, vb r2)], [], H⟩ ?_
 exact ye
 refine Ag ?_
 refine ysg ⟨L8 ++ [(15, vb (!r2))], [], H⟩ ?_
 rcases Ae hF with ⟨h4, hF⟩ | ⟨h4, hF⟩
 refine yT h4 ⟨[], [], H⟩ ?_
 refine ysg ⟨[(4, .one .top (.int .i32 0)), (5, vF)], [], H⟩ ?_
 refine Au ?_
 obtain ⟨e0, e1⟩ := Ar hF
 subst e0
 subst e1
 exact yp (.tup [.one .top (.int .i32 0), vF])
 refine yF h4 ⟨L8, [], H⟩ ?_
 refine Ao ?_
 refine Ag ?_
 obtain ⟨r5, c6, hF⟩ := Ab hF
 let E4 : EN := (4, .one .top (.int .i32 r5))
 let E5 : EN := (24, .one .top (.int .i32 r5))
 refine Aj ⟨[E4, (5, vT)], [], H⟩ ?_ ?_
 refine yr 8 ⟨L8 ++ L9, [], H⟩ ?_
 refine Ai ⟨L8 ++ L9 ++ [E5], [], H⟩ (yc (some 24) true false (⟨L8 ++ L9, [], H⟩ : St) (Mb H c6)) ?_
 refine yr 2 ⟨L7 ++ [E4, (5, vT), E6] ++ L9 ++ [E5], [], H⟩ ?_
 exact ye
 refine Au ?_
 obtain ⟨e0, e1⟩ := Ar hF
 subst e0
 subst e1
 exact yp (.tup [.one .top (.int .i32 r5), vT])
noncomputable def Nm  (p0 : Bool) : Option (Int) :=
  if p0 = true then (some 1)
  else (some 0)
theorem Pc (H : Ah) {p0 : Bool} {ra : Int} (hF : Nm p0 = some ra) : evS X 135 [.one .top (.bool p0)] H = some (.one .top (.int .u32 ra), H) := by
 refine yf Try.func135 true ⟨[(0, vb p0)], [], H⟩ ?_
 unfold Nm at hF
 refine ysg ⟨[(0, vb p0)], [], H⟩ ?_
 refine Ag ?_
 refine ysg ⟨[(3, vb p0)], [], H⟩ ?_
 rcases Ae hF with ⟨h1, hF⟩ | ⟨h1, hF⟩
 refine yT h1 ⟨[], [], H⟩ ?_
 refine ysg ⟨[(2, vu 1)], [], H⟩ ?_
 refine Au ?_
 obtain e0 := Am hF
 subst e0
 exact yp (vu 1)
 refine yF h1 ⟨[], [], H⟩ ?_
 refine Ao ?_
 refine ysg ⟨[(2, vu 0)], [], H⟩ ?_
 refine Au ?_
 obtain e0 := Am hF
 subst e0
 exact yp (vu 0)
noncomputable def Cg  (p0 : Int) (p1 : Int) (p2 : Int) : Option (Int × Bool) :=
  if (p0 == 6) = true then (some ((IntKind.wrap .u32 (p1 + p2)), true))
  else (if (p0 == 7) = true then (some ((IntKind.wrap .u32 (p1 - p2)), true))
  else (if (p0 == 8) = true then (Af (Pb (IntKind.wrap .i32 p1) (IntKind.wrap .i32 p2)) fun r4 =>
  some ((IntKind.wrap .u32 r4), true))
  else (if (p0 == 9) = true then (Cc (Ib (IntKind.wrap .i32 p1) (IntKind.wrap .i32 p2)) fun r7 r8 =>
  some ((IntKind.wrap .u32 r7), r8))
  else (if (p0 == 10) = true then (Cc (My (IntKind.wrap .i32 p1) (IntKind.wrap .i32 p2)) fun r11 r12 =>
  some ((IntKind.wrap .u32 r11), r12))
  else (if (p0 == 11) = true then (some ((A9 .and .u32 p1 p2), true))
  else (if (p0 == 12) = true then (some ((A9 .or .u32 p1 p2), true))
  else (if (p0 == 13) = true then (some ((A9 .xor .u32 p1 p2), true))
  else (if (p0 == 14) = true then (Af (Nm (decide ((IntKind.wrap .i32 p1) < (IntKind.wrap .i32 p2)))) fun r18 =>
  some (r18, true))
  else (if (p0 == 15) = true then (Af (Nm (decide ((IntKind.wrap .i32 p1) ≤ (IntKind.wrap .i32 p2)))) fun r21 =>
  some (r21, true))
  else (if (p0 == 16) = true then (Af (Nm (p1 == p2)) fun r24 =>
  some (r24, true))
  else (if (p0 == 17) = true then (Af (Nm (p1 != p2)) fun r27 =>
  some (r27, true))
  else (some (0, true)))))))))))))
theorem Wh (H : Ah) {p0 : Int} {p1 : Int} {p2 : Int} {ra : Int} {rb : Bool} (hF : Cg p0 p1 p2 = some (ra, rb)) : evS X 116 [.one .top (.int .i64 p0), .one .top (.int .u32 p1), .one .top (.int .u32 p2)] H = some (.tup [.one .top (.int .u32 ra), .one .top (.bool rb)], H) := by
 let E1 : EN := (7, vT)
 let E5 : EN := (38, .one .top (.int .i32 (IntKind.wrap .i32 p1)))
 let E6 : EN := (39, .one .top (.int .i32 (IntKind.wrap .i32 p2)))
 let E9 : EN := (49, .one .top (.int .i32 (IntKind.wrap .i32 p1)))
 let E10 : EN := (50, .one .top (.int .i32 (IntKind.wrap .i32 p2)))
 let E12 : EN := (18, vi p0)
 let L13 : List EN := [(8, .one .top (.int .i32 (IntKind.wrap .i32 p1))), (9, .one .top (.int .i32 (IntKind.wrap .i32 p2)))]
 let L14 : List EN := [(1, vu p1), (2, vu p2)]
 let L15 : List EN := L14 ++ L13 ++ [E12]
 let L16 : List EN := L13 ++ [(31, .one .top (.int .i32 (IntKind.wrap .i32 p1))), (32, .one .top (.int .i32 (IntKind.wrap .i32 p2)))]
 let L17 : List EN := [(86, vu p1), (87, vu p2), (88, vb (p1 == p2))]
 let L18 : List EN := [(92, vu p1), (93, vu p2), (94, vb (p1 != p2))]
 let L19 : List EN := L13 ++ [(74, .one .top (.int .i32 (IntKind.wrap .i32 p1))), (75, .one .top (.int .i32 (IntKind.wrap .i32 p2))), (76, vb (decide ((IntKind.wrap .i32 p1) < (IntKind.wrap .i32 p2))))]
 let L20 : List EN := L13 ++ [(80, .one .top (.int .i32 (IntKind.wrap .i32 p1))), (81, .one .top (.int .i32 (IntKind.wrap .i32 p2))), (82, vb (decide ((IntKind.wrap .i32 p1) ≤ (IntKind.wrap .i32 p2))))]
 let S21 : St := ⟨[(0, vi p0)] ++ L14, [], H⟩
 refine yf Try.func116 true S21 ?_
 unfold Cg at hF
 refine ysg S21 ?_
 refine ysg ⟨[(0, vi p0)] ++ L14 ++ L13, [], H⟩ ?_
 refine ysg ⟨L15, [], H⟩ ?_
 refine Bt ?_
 refine ysg ⟨L15 ++ [(19, vb (p0 == 6))], [], H⟩ ?_
 rcases Ae hF with ⟨h1, hF⟩ | ⟨h1, hF⟩
 refine yT h1 ⟨L14, [], H⟩ ?_
 refine ysg ⟨[(6, vu (IntKind.wrap .u32 (p1 + p2))), E1], [], H⟩ ?_
 refine Au ?_
 obtain ⟨e0, e1⟩ := Ar hF
 subst e0
 subst e1
 exact yp (.tup [vu (IntKind.wrap .u32 (p1 + p2)), vT])
 refine yF h1 ⟨L15, [], H⟩ ?_
 refine ysg ⟨L15 ++ [(24, vb (p0 == 7))], [], H⟩ ?_
 rcases Ae hF with ⟨h2, hF⟩ | ⟨h2, hF⟩
 refine yT h2 ⟨L14, [], H⟩ ?_
 refine ysg ⟨[(6, vu (IntKind.wrap .u32 (p1 - p2))), E1], [], H⟩ ?_
 refine Au ?_
 obtain ⟨e0, e1⟩ := Ar hF
 subst e0
 subst e1
 exact yp (.tup [vu (IntKind.wrap .u32 (p1 - p2)), vT])
 refine yF h2 ⟨L15, [], H⟩ ?_
 refine ysg ⟨L15 ++ [(29, vb (p0 == 8))], [], H⟩ ?_
 rcases Ae hF with ⟨h3, hF⟩ | ⟨h3, hF⟩
 refine yT h3 ⟨L13, [], H⟩ ?_
 refine Ag ?_
 obtain ⟨r4, c5, hF⟩ := Ab hF
 let E2 : EN := (6, vu (IntKind.wrap .u32 r4))
 let E3 : EN := (33, .one .top (.int .i32 r4))
 refine Aj ⟨[E2, E1], [], H⟩ ?_ ?_
 refine yr 2 ⟨L16, [], H⟩ ?_
 refine Ai ⟨L16 ++ [E3], [], H⟩ (yc (some 33) true false (⟨L16, [], H⟩ : St) (Za H c5)) ?_
 refine yr 3 ⟨[E2, E1] ++ L16 ++ [E3, (34, vu (IntKind.wrap .u32 r4))], [], H⟩ ?_
 exact ye
 refine Au ?_
 obtain ⟨e0, e1⟩ := Ar hF
 subst e0
 subst e1
 exact yp (.tup [vu (IntKind.wrap .u32 r4), vT])
 refine yF h3 ⟨L15, [], H⟩ ?_
 refine ysg ⟨L15 ++ [(35, vb (p0 == 9))], [], H⟩ ?_
 rcases Ae hF with ⟨h6, hF⟩ | ⟨h6, hF⟩
 refine yT h6 ⟨L13, [], H⟩ ?_
 refine Ag ?_
 obtain ⟨r7, r8, c9, hF⟩ := Be hF
 let E4 : EN := (10, .one .top (.int .i32 r7))
 let E7 : EN := (40, .tup [.one .top (.int .i32 r7), vb r8])
 refine Aj ⟨[E4, (11, vb r8)], [], H⟩ ?_ ?_
 refine yr 2 ⟨L13 ++ [E5, E6], [], H⟩ ?_
 refine Ai ⟨L13 ++ [E5, E6, E7], [], H⟩ (yc (some 40) true false (⟨L13 ++ [E5, E6], [], H⟩ : St) (Us H c9)) ?_
 refine yr 5 ⟨L13 ++ [E4, (11, vb r8), (37, .tup [.one .top (.int .i32 r7), vb r8]), E5, E6, E7, (41, .one .top (.int .i32 r7)), (42, vb r8)], [], H⟩ ?_
 exact ye
 refine ysg ⟨[(6, vu (IntKind.wrap .u32 r7)), (7, vb r8)], [], H⟩ ?_
 refine Au ?_
 obtain ⟨e0, e1⟩ := Ar hF
 subst e0
 subst e1
 exact yp (.tup [vu (IntKind.wrap .u32 r7), vb r8])
 refine yF h6 ⟨L15, [], H⟩ ?_
 refine ysg ⟨L15 ++ [(46, vb (p0 == 10))], [], H⟩ ?_
 rcases Ae hF with ⟨h10, hF⟩ | ⟨h10, hF⟩
 refine yT h10 ⟨L13, [], H⟩ ?_
 refine Ag ?_
 obtain ⟨r11, r12, c13, hF⟩ := Be hF
 let E8 : EN := (12, .one .top (.int .i32 r11))
 let E11 : EN := (51, .tup [.one .top (.int .i32 r11), vb r12])
 refine Aj ⟨[E8, (13, vb r12)], [], H⟩ ?_ ?_
 refine yr 2 ⟨L13 ++ [E9, E10], [], H⟩ ?_
 refine Ai ⟨L13 ++ [E9, E10, E11], [], H⟩ (yc (some 51) true false (⟨L13 ++ [E9, E10], [], H⟩ : St) (cI H c13)) ?_
 refine yr 5 ⟨L13 ++ [E8, (13, vb r12), (48, .tup [.one .top (.int .i32 r11), vb r12]), E9, E10, E11, (52, .one .top (.int .i32 r11)), (53, vb r12)], [], H⟩ ?_
 exact ye
 refine ysg ⟨[(6, vu (IntKind.wrap .u32 r11)), (7, vb r12)], [], H⟩ ?_
 refine Au ?_
 obtain ⟨e0, e1⟩ := Ar hF
 subst e0
 subst e1
 exact yp (.tup [vu (IntKind.wrap .u32 r11), vb r12])
 refine yF h10 ⟨L15, [], H⟩ ?_
 refine ysg ⟨L15 ++ [(57, vb (p0 == 11))], [], H⟩ ?_
 rcases Ae hF with ⟨h14, hF⟩ | ⟨h14, hF⟩
 refine yT h14 ⟨L14, [], H⟩ ?_
 refine ysg ⟨[(6, vu (A9 .and .u32 p1 p2)), E1], [], H⟩ ?_
 refine Au ?_
 obtain ⟨e0, e1⟩ := Ar hF
 subst e0
 subst e1
 exact yp (.tup [vu (A9 .and .u32 p1 p2), vT])
 refine yF h14 ⟨L15, [], H⟩ ?_
 refine ysg ⟨L15 ++ [(62, vb (p0 == 12))], [], H⟩ ?_
 rcases Ae hF with ⟨h15, hF⟩ | ⟨h15, hF⟩
 refine yT h15 ⟨L14, [], H⟩ ?_
 refine ysg ⟨[(6, vu (A9 .or .u32 p1 p2)), E1], [], H⟩ ?_
 refine Au ?_
 obtain ⟨e0, e1⟩ := Ar hF
 subst e0
 subst e1
 exact yp (.tup [vu (A9 .or .u32 p1 p2), vT])
 refine yF h15 ⟨L15, [], H⟩ ?_
 refine ysg ⟨L15 ++ [(67, vb (p0 == 13))], [], H⟩ ?_
 rcases Ae hF with ⟨h16, hF⟩ | ⟨h16, hF⟩
 refine yT h16 ⟨L14, [], H⟩ ?_
 refine ysg ⟨[(6, vu (A9 .xor .u32 p1 p2)), E1], [], H⟩ ?_
 refine Au ?_
 obtain ⟨e0, e1⟩ := Ar hF
 subst e0
 subst e1
 exact yp (.tup [vu (A9 .xor .u32 p1 p2), vT])
 refine yF h16 ⟨L15, [], H⟩ ?_
 refine ysg ⟨L15 ++ [(72, vb (p0 == 14))], [], H⟩ ?_
 rcases Ae hF with ⟨h17, hF⟩ | ⟨h17, hF⟩
 refine yT h17 ⟨L13, [], H⟩ ?_
 refine Ag ?_
 obtain ⟨r18, c19, hF⟩ := Ab hF
 refine Aj ⟨[(6, vu r18), E1], [], H⟩ ?_ ?_
 refine yr 3 ⟨L19, [], H⟩ ?_
 refine Ai ⟨L19 ++ [(77, vu r18)], [], H⟩ (yc (some 77) true false (⟨L19, [], H⟩ : St) (Pc H c19)) ?_
 refine yr 2 ⟨[(6, vu r18), E1] ++ L19 ++ [(77, vu r18)], [], H⟩ ?_
 exact ye
 refine Au ?_
 obtain ⟨e0, e1⟩ := Ar hF
 subst e0
 subst e1
 exact yp (.tup [vu r18, vT])
 refine yF h17 ⟨L15, [], H⟩ ?_
 refine ysg ⟨L15 ++ [(78, vb (p0 == 15))], [], H⟩ ?_
 rcases Ae hF with ⟨h20, hF⟩ | ⟨h20, hF⟩
 refine yT h20 ⟨L13, [], H⟩ ?_
 refine Ag ?_
 obtain ⟨r21, c22, hF⟩ := Ab hF
 refine Aj ⟨[(6, vu r21), E1], [], H⟩ ?_ ?_
 refine yr 3 ⟨L20, [], H⟩ ?_
 refine Ai ⟨L20 ++ [(83, vu r21)], [], H⟩ (yc (some 83) true false (⟨L20, [], H⟩ : St) (Pc H c22)) ?_
 refine yr 2 ⟨[(6, vu r21), E1] ++ L20 ++ [(83, vu r21)], [], H⟩ ?_
 exact ye
 refine Au ?_
 obtain ⟨e0, e1⟩ := Ar hF
 subst e0
 subst e1
 exact yp (.tup [vu r21, vT])
 refine yF h20 ⟨L14 ++ [E12], [], H⟩ ?_
 refine ysg ⟨L14 ++ [E12, (84, vb (p0 == 16))], [], H⟩ ?_
 rcases Ae hF with ⟨h23, hF⟩ | ⟨h23, hF⟩
 refine yT h23 ⟨L14, [], H⟩ ?_
 refine Ag ?_
 obtain ⟨r24, c25, hF⟩ := Ab hF
 refine Aj ⟨[(6, vu r24), E1], [], H⟩ ?_ ?_
 refine yr 3 ⟨L14 ++ L17, [], H⟩ ?_
 refine Ai ⟨L14 ++ L17 ++ [(89, vu r24)], [], H⟩ (yc (some 89) true false (⟨L14 ++ L17, [], H⟩ : St) (Pc H c25)) ?_
 refine yr 2 ⟨L14 ++ [(6, vu r24), E1] ++ L17 ++ [(89, vu r24)], [], H⟩ ?_
 exact ye
 refine Au ?_
 obtain ⟨e0, e1⟩ := Ar hF
 subst e0
 subst e1
 exact yp (.tup [vu r24, vT])
 refine yF h23 ⟨L14 ++ [E12], [], H⟩ ?_
 refine ysg ⟨L14 ++ [(90, vb (p0 == 17))], [], H⟩ ?_
 rcases Ae hF with ⟨h26, hF⟩ | ⟨h26, hF⟩
 refine yT h26 ⟨L14, [], H⟩ ?_
 refine Ag ?_
 obtain ⟨r27, c28, hF⟩ := Ab hF
 refine Aj ⟨[(6, vu r27), E1], [], H⟩ ?_ ?_
 refine yr 3 ⟨L14 ++ L18, [], H⟩ ?_
 refine Ai ⟨L14 ++ L18 ++ [(95, vu r27)], [], H⟩ (yc (some 95) true false (⟨L14 ++ L18, [], H⟩ : St) (Pc H c28)) ?_
 refine yr 2 ⟨L14 ++ [(6, vu r27), E1] ++ L18 ++ [(95, vu r27)], [], H⟩ ?_
 exact ye
 refine Au ?_
 obtain ⟨e0, e1⟩ := Ar hF
 subst e0
 subst e1
 exact yp (.tup [vu r27, vT])
 refine yF h26 ⟨[], [], H⟩ ?_
 refine ysg ⟨[(6, vu 0), E1], [], H⟩ ?_
 refine Au ?_
 obtain ⟨e0, e1⟩ := Ar hF
 subst e0
 subst e1
 exact yp (.tup [vu 0, vT])
noncomputable def Fx  (p0 : T_ref04_Cpu) (p1 : Int) : Option (T_ref04_Cpu) :=
  if (decide (p0.PC_ < p0.Guard_)) = true then (Af (Gp p0 111) fun r2 =>
  some r2)
  else (some (T_ref04_Cpu.mk p0.R_ p0.Vector_ p0.PC_ p1 p0.State_ p0.Why_ p0.Steps_ p0.Taken_ p0.Out_ p0.Entry_ p0.Vector_ p0.Guard_ p0.Limit_ p0.Input_))
theorem Gv (H : Ah) {p0 : T_ref04_Cpu} {p1 : Int} {ra : T_ref04_Cpu} (hF : Fx p0 p1 = some ra) : evS X 117 [.agg (Al p0), .one .top (.int .u32 p1)] H = some (.agg (Ak ra), H) := by
 let B1 : EB := (2, (Al p0))
 let B2 : EB := (4, (List.replicate 19 (.top, .int .u32 0) ++ List.replicate 4 (.top, .int .i64 0) ++ [((.own 1), .sl 2 (List.map Ad ([] : List T_api_Event)))] ++ List.replicate 4 (.top, .int .u32 0) ++ [((.own 1), .sl 1 (List.map (eI .i32) ([] : List Int)))]))
 let B3 : EB := (2, (arM .u32 16 p0.R_ ++ [(.top, .int .u32 p0.PC_), (.top, .int .u32 p0.EPC_), (.top, .int .u32 p0.Cause_), (.top, .int .i64 p0.State_), (.top, .int .i64 p0.Why_), (.top, .int .i64 p0.Steps_), (.top, .int .i64 p0.Taken_), (.top, .junk), (.top, .int .u32 p0.Entry_), (.top, .int .u32 p0.Vector_), (.top, .int .u32 p0.Guard_), (.top, .int .u32 p0.Limit_), ((.own 0), .sl 1 (List.map (eI .i32) p0.Input_))]))
 let E4 : EN := (10, .agg (arM .u32 16 p0.R_ ++ [(.top, .int .u32 p0.PC_), (.top, .int .u32 p0.EPC_), (.top, .int .u32 p0.Cause_), (.top, .int .i64 p0.State_), (.top, .int .i64 p0.Why_), (.top, .int .i64 p0.Steps_), (.top, .int .i64 p0.Taken_), (.top, .junk), (.top, .int .u32 p0.Entry_), (.top, .int .u32 p0.Vector_), (.top, .int .u32 p0.Guard_), (.top, .int .u32 p0.Limit_), ((.own 0), .sl 1 (List.map (eI .i32) p0.Input_))]))
 let L6 : List EN := [(2, vl 2 0), (4, vl 4 0)]
 let S7 : St := ⟨[(1, vu p1)] ++ L6, [B1, B2], H⟩
 refine yf Try.func117 true ⟨[(0, .agg (Al p0)), (1, vu p1)], [], H⟩ ?_
 unfold Fx at hF
 refine ysg S7 ?_
 refine Ag ?_
 refine ysg ⟨[(1, vu p1)] ++ L6 ++ [(9, vb (decide (p0.PC_ < p0.Guard_)))], [B1, B2], H⟩ ?_
 rcases Ae hF with ⟨h1, hF⟩ | ⟨h1, hF⟩
 refine yT h1 ⟨L6, [B1, B2], H⟩ ?_
 refine Ag ?_
 obtain ⟨r2, c3, hF⟩ := Ab hF
 let E5 : EN := (11, .agg (Ak r2))
 refine Aj ⟨[(4, vl 4 0)], [(4, (Ak r2))], H⟩ ?_ ?_
 refine yr 1 ⟨L6 ++ [(10, .agg (Al p0))], [B3, B2], H⟩ ?_
 refine Ai ⟨L6 ++ [E4, E5], [B3, B2], H⟩ (yc (some 11) true true (⟨L6 ++ [E4], [B3, B2], H⟩ : St) (Hy H c3)) ?_
 refine yr 1 ⟨L6 ++ [E4, E5], [B3, (4, (Ak r2))], H⟩ ?_
 exact ye
 refine Au ?_
 obtain e0 := Am hF
 subst e0
 exact yp (.agg (Ak r2))
 refine yF h1 S7 ?_
 refine Ao ?_
 refine ysg ⟨L6, [(2, (arM .u32 16 p0.R_ ++ [(.top, .int .u32 p0.Vector_), (.top, .int .u32 p0.PC_), (.top, .int .u32 p1), (.top, .int .i64 p0.State_), (.top, .int .i64 p0.Why_), (.top, .int .i64 p0.Steps_), (.top, .int .i64 p0.Taken_), ((.own 1), .sl 2 (List.map Ad p0.Out_)), (.top, .int .u32 p0.Entry_), (.top, .int .u32 p0.Vector_), (.top, .int .u32 p0.Guard_), (.top, .int .u32 p0.Limit_), ((.own 0), .sl 1 (List.map (eI .i32) p0.Input_))])), B2], H⟩ ?_
 refine ysg ⟨[(4, vl 4 0)], [(4, (arM .u32 16 p0.R_ ++ [(.top, .int .u32 p0.Vector_), (.top, .int .u32 p0.PC_), (.top, .int .u32 p1), (.top, .int .i64 p0.State_), (.top, .int .i64 p0.Why_), (.top, .int .i64 p0.Steps_), (.top, .int .i64 p0.Taken_), ((.own 1), .sl 2 (List.map Ad p0.Out_)), (.top, .int .u32 p0.Entry_), (.top, .int .u32 p0.Vector_), (.top, .int .u32 p0.Guard_), (.top, .int .u32 p0.Limit_), ((.own 0), .sl 1 (List.map (eI .i32) p0.Input_))]))], H⟩ ?_
 refine Au ?_
 obtain e0 := Am hF
 subst e0
 exact yp (.agg (arM .u32 16 p0.R_ ++ [(.top, .int .u32 p0.Vector_), (.top, .int .u32 p0.PC_), (.top, .int .u32 p1), (.top, .int .i64 p0.State_), (.top, .int .i64 p0.Why_), (.top, .int .i64 p0.Steps_), (.top, .int .i64 p0.Taken_), ((.own 1), .sl 2 (List.map Ad p0.Out_)), (.top, .int .u32 p0.Entry_), (.top, .int .u32 p0.Vector_), (.top, .int .u32 p0.Guard_), (.top, .int .u32 p0.Limit_), ((.own 0), .sl 1 (List.map (eI .i32) p0.Input_))]))
theorem Wi (H : Ah) {p0 : T_ref03_Mem} {p1 : Int} {p2 : (List Int)} {ra : T_ref03_Mem} (hF : Dr p0 p1 p2 = some ra) : evS X 94 [.agg (Ac p0), .one .top (.int .i64 p1), .one (.own 1) (.sl 1 (List.map (eI .u32) p2))] H = some (.agg (Ac ra), H) := by
 let E1 : EN := (2, .one (.own 1) (.sl 1 (List.map (eI .u32) p2)))
 let B2 : EB := (3, (Ac p0))
 let B3 : EB := (6, (List.replicate 5 (.top, .int .u32 0) ++ [((.own 1), .sl 1 (List.map (eI .u32) ([] : List Int)))]))
 let E5 : EN := (11, vi (p0.W_.length : Int))
 let E6 : EN := (10, .one (.own 0) (.sl 1 (List.map (eI .u32) p0.W_)))
 let E9 : EN := (15, .one (.own 0) (.sl 1 (List.map (eI .u32) p0.W_)))
 let E11 : EN := (19, vi (p2.length : Int))
 let L18 : List EN := [(3, vl 3 0), (6, vl 6 0)]
 let L19 : List EN := [(1, vi p1), E1] ++ L18
 let L22 : List EN := L19 ++ [(9, vl 3 5), E6]
 refine yf Try.func94 true ⟨[(0, .agg (Ac p0)), (1, vi p1), E1], [], H⟩ ?_
 unfold Dr at hF
 refine ysg ⟨L19, [B2, B3], H⟩ ?_
 refine Ag ?_
 obtain ⟨v1, h2, hF⟩ := Ab hF
 let E4 : EN := (7, .one (.own 1) (.sl 1 (List.map (eI .u32) v1)))
 let E8 : EN := (13, .one .top (.at_ (.tmp 7) 0 ((List.map (eI .u32) v1).length)))
 refine Aj ⟨L19 ++ [E4], [B2, B3], H⟩ ?_ ?_
 refine yr 2 ⟨L22, [B2, B3], H⟩ ?_
 refine Ai ⟨L22 ++ [E5], [B2, B3], H⟩ (yl (⟨L22, [B2, B3], H⟩ : St) p0.W_ (eI .u32) (some 11)) ?_
 refine Ai ⟨L22 ++ [E5, (12, .one (.own 1) (.sl 1 (List.map (eI .u32) v1)))], [B2, B3], H⟩ (dZ (X := X) (⟨L22 ++ [E5], [B2, B3], H⟩ : St) 4 h2 42 35 1 [(.top, .int .u32 0)] (eI .u32) 0 (.i64) (.i64) (some 12) (by kernel_rfl) (by kernel_rfl) (by kernel_rfl) (by kernel_rfl) (by kernel_rfl) (by kernel_rfl) (by kernel_rfl) (by kernel_rfl) (by kernel_rfl) (by kernel_rfl)) ?_
 refine yr 1 ⟨L19 ++ [E4, (9, vl 3 5), E6, E5, (12, .one .top .junk)], [B2, B3], H⟩ ?_
 exact ye
 refine Ag ?_
 obtain ⟨v3, h4, hF⟩ := Cl hF
 let E7 : EN := (7, .one (.own 1) (.sl 1 (List.map (eI .u32) v3)))
 refine Aj ⟨L19 ++ [E7], [B2, B3], H⟩ ?_ ?_
 refine yr 3 ⟨L19 ++ [E4, E8, (14, vl 3 5), E9], [B2, B3], H⟩ ?_
 refine Ai ⟨L19 ++ [E7, E8, (14, vl 3 5), E9, (16, vi (((min p0.W_.length (v1.length - 0) : Nat)) : Int))], [B2, B3], H⟩ (gA (X := X) (⟨L19 ++ [E4, E8, (14, vl 3 5), E9], [B2, B3], H⟩ : St) 42 35 0 1 (eI .u32) 7 (.own 0) v1 p0.W_ 0 h4 (some 16) ⟨true, []⟩ (Nat.zero_le _) (by kernel_rfl) (by kernel_rfl) (by kernel_rfl) (fun _ => rfl) (fun _ => rfl) (by kernel_rfl) (by kernel_rfl)) ?_
 exact ye
 refine Ag ?_
 refine ysg ⟨L19 ++ [E7, (8, vi 0)], [B2, B3], H⟩ ?_
 refine Bt ?_
 obtain ⟨r14, hL15, hF⟩ := Ab hF
 refine Qn (fun (x : ((List Int) × Int)) => (⟨L19 ++ [(7, .one (.own 1) (.sl 1 (List.map (eI .u32) x.1))), (8, vi x.2)], [B2, B3], H⟩ : St)) (fun (y : ((List Int))) => ((.exit 0, (⟨L18 ++ [(7, .one (.own 1) (.sl 1 (List.map (eI .u32) y)))], [B2, B3], H⟩ : St)) : Ex × St)) hL15 (by kernel_rfl) ?_ ?_
 rintro ⟨a5, a6⟩ o hF
 replace hF : Cw p2 p1 a5 a6 = some o := hF
 let E10 : EN := (20, vb (decide (a6 < (p2.length : Int))))
 let E14 : EN := (31, .one .top (.el (.tmp 7) (Int.toNat (IntKind.wrap .i64 (p1 + a6))) 0))
 let E15 : EN := (23, .one .top (.at_ (.tmp 7) 0 ((List.map (eI .u32) a5).length)))
 let E16 : EN := (26, vi (IntKind.wrap .i64 (p1 + a6)))
 let E17 : EN := (7, .one (.own 1) (.sl 1 (List.map (eI .u32) a5)))
 let L20 : List EN := L19 ++ [E17, (8, vi a6)]
 let L21 : List EN := [E15, (24, vi p1), (25, vi a6), E16, (27, .one .bl (.sl 1 (List.map (eI .u32) p2))), (28, vi a6)]
 let L23 : List EN := L20 ++ [(17, vi a6), (18, .one .bl (.sl 1 (List.map (eI .u32) p2)))]
 unfold Cw at hF
 refine Ag ?_
 refine yso ⟨L20 ++ [E10], [B2, B3], H⟩ ?_ ?_
 refine yr 2 ⟨L23, [B2, B3], H⟩ ?_
 refine Ai ⟨L23 ++ [E11], [B2, B3], H⟩ (yl (⟨L23, [B2, B3], H⟩ : St) p2 (eI .u32) (some 19)) ?_
 refine yr 1 ⟨L23 ++ [E11, E10], [B2, B3], H⟩ ?_
 exact ye
 rcases Ae hF with ⟨h7, hF⟩ | ⟨h7, hF⟩
 refine yT h7 ⟨L20, [B2, B3], H⟩ ?_
 refine Ao ?_
 refine Ag ?_
 refine Bt ?_
 obtain ⟨x8, h9, hF⟩ := Ab hF
 let E13 : EN := (29, .one .top (.rd .bl .bl [.int .u32 x8] 0))
 let L24 : List EN := L20 ++ L21 ++ [E13, (30, vu x8)]
 obtain ⟨x10, h11, hF⟩ := Ab hF
 obtain ⟨v12, h13, hF⟩ := Ab hF
 let E12 : EN := (7, .one (.own 1) (.sl 1 (List.map (eI .u32) v12)))
 refine Aj ⟨L19 ++ [E12, (8, vi a6)], [B2, B3], H⟩ ?_ ?_
 refine yr 6 ⟨L20 ++ L21, [B2, B3], H⟩ ?_
 refine Ai ⟨L20 ++ L21 ++ [E13], [B2, B3], H⟩ (P5 (X := X) (⟨L20 ++ L21, [B2, B3], H⟩ : St) 42 35 1 h9 (eI .u32) .bl (some 29) (by kernel_rfl) (by kernel_rfl) (by kernel_rfl) (by kernel_rfl)) ?_
 refine yr 1 ⟨L24, [B2, B3], H⟩ ?_
 refine Ai ⟨L24 ++ [E14], [B2, B3], H⟩ (bU (X := X) (⟨L24, [B2, B3], H⟩ : St) 42 35 1 h11 (eI .u32) (.tmp 7) 0 (List.map (eI .u32) a5).length 0 (some 31) (by kernel_rfl) (by kernel_rfl) (by kernel_rfl) (by kernel_rfl) rfl (List.length_map _) (by kernel_rfl)) ?_
 refine Ai ⟨L19 ++ [E12, (8, vi a6), E15, (24, vi p1), (25, vi a6), E16, (27, .one .top .junk), (28, vi a6), (29, .one .top .junk), (30, vu x8), E14], [B2, B3], H⟩ (bZ (X := X) (⟨L24 ++ [E14], [B2, B3], H⟩ : St) (⟨L19 ++ [E12, (8, vi a6)] ++ L21 ++ [E13, (30, vu x8), E14], [B2, B3], H⟩ : St) ⟨true, []⟩ 35 (.tmp 7) (Int.toNat (IntKind.wrap .i64 (p1 + a6))) 0 1 0 (List.map (eI .u32) a5) [.int .u32 x10] ((eI .u32) x8) (List.map (eI .u32) v12) 1 (vu x8) (by kernel_rfl) (by kernel_rfl) (by kernel_rfl) (by kernel_rfl) (by kernel_rfl) (by kernel_rfl) (iM h11) (by kernel_rfl) (by kernel_rfl) (bY h13) (by kernel_rfl) (by kernel_rfl)) ?_
 exact ye
 refine yg ⟨L19 ++ [E12, (8, vi (IntKind.wrap .i64 (a6 + 1)))], [B2, B3], H⟩ ?_
 cases hF
 exact ⟨_, rfl, (by kernel_rfl)⟩
 refine yF h7 ⟨L18 ++ [E17], [B2, B3], H⟩ ?_
 refine Ph ?_
 cases hF
 exact ⟨_, rfl, (by kernel_rfl)⟩
 obtain ⟨b16, hy⟩ : ∃ y, y = r14 := ⟨_, rfl⟩
 subst hy
 refine bT (i := 0) (s := (⟨L18 ++ [(7, .one (.own 1) (.sl 1 (List.map (eI .u32) b16)))], [B2, B3], H⟩ : St)) (by kernel_rfl) ?_
 refine Qm ?_
 refine ysg ⟨L18, [(3, (arM .u32 5 p0.Ends_ ++ [((.own 1), .sl 1 (List.map (eI .u32) b16))])), B3], H⟩ ?_
 refine ysg ⟨[(6, vl 6 0)], [(6, (arM .u32 5 p0.Ends_ ++ [((.own 1), .sl 1 (List.map (eI .u32) b16))]))], H⟩ ?_
 refine Au ?_
 obtain e0 := Am hF
 subst e0
 exact yp (.agg (arM .u32 5 p0.Ends_ ++ [((.own 1), .sl 1 (List.map (eI .u32) b16))]))
noncomputable def Lp  (p0 : T_ref03_Mem) (p1 : Int) (p2 : Int) : Option (T_ref03_Mem × Int) :=
  Cc (Kf p0 p1) fun r1 r2 =>
  if (r2 != 0) = true then (some (p0, r2))
  else (if (decide (p1 < (p0.Ends_.g 1))) = true then (some (p0, 32))
  else (Af (Dr p0 (IntKind.wrap .i64 (IntKind.wrap .u32 (Int.tdiv p1 4))) ([p2] : List Int)) fun r6 =>
  some (r6, 0)))
theorem Zb (H : Ah) {p0 : T_ref03_Mem} {p1 : Int} {p2 : Int} {ra : T_ref03_Mem} {rb : Int} (hF : Lp p0 p1 p2 = some (ra, rb)) : evS X 118 [.agg (Ac p0), .one .top (.int .u32 p1), .one .top (.int .u32 p2)] H = some (.tup [.agg (Ac ra), .one .top (.int .i64 rb)], H) := by
 let B1 : EB := (3, (Ac p0))
 let B2 : EB := (6, (List.replicate 5 (.top, .int .u32 0) ++ [((.own 1), .sl 1 (List.map (eI .u32) ([] : List Int)))]))
 let E3 : EN := (11, .agg (Ac p0))
 let E4 : EN := (12, vu p1)
 let E6 : EN := (6, vl 6 0)
 let E7 : EN := (31, .one .top .junk)
 let L9 : List EN := [(1, vu p1), (2, vu p2), (3, vl 3 0), E6]
 let L10 : List EN := [(26, .agg (Ac p0)), (27, vu p1), (28, vu (IntKind.wrap .u32 (Int.tdiv p1 4))), (29, vi (IntKind.wrap .i64 (IntKind.wrap .u32 (Int.tdiv p1 4)))), (30, vu p2)]
 refine yf Try.func118 true ⟨[(0, .agg (Ac p0)), (1, vu p1), (2, vu p2)], [], H⟩ ?_
 unfold Lp at hF
 refine ysg ⟨L9, [B1, B2], H⟩ ?_
 refine Ag ?_
 refine Ag ?_
 obtain ⟨r1, r2, c3, hF⟩ := Be hF
 let E5 : EN := (13, .tup [vu r1, vi r2])
 refine Aj ⟨L9 ++ [(9, vi r2)], [B1, B2], H⟩ ?_ ?_
 refine yr 2 ⟨L9 ++ [E3, E4], [B1, B2], H⟩ ?_
 refine Ai ⟨L9 ++ [E3, E4, E5], [B1, B2], H⟩ (yc (some 13) true false (⟨L9 ++ [E3, E4], [B1, B2], H⟩ : St) (Pk H c3)) ?_
 refine yr 5 ⟨L9 ++ [(8, vu r1), (9, vi r2), (10, .tup [vu r1, vi r2]), E3, E4, E5, (14, vu r1), (15, vi r2)], [B1, B2], H⟩ ?_
 exact ye
 refine ysg ⟨L9 ++ [(9, vi r2), (17, vb (r2 != 0))], [B1, B2], H⟩ ?_
 rcases Ae hF with ⟨h4, hF⟩ | ⟨h4, hF⟩
 refine yT h4 ⟨[(3, vl 3 0), E6, (9, vi r2)], [B1, B2], H⟩ ?_
 refine ysg ⟨[E6, (7, vi r2)], [(6, (Ac p0))], H⟩ ?_
 refine Au ?_
 obtain ⟨e0, e1⟩ := Ar hF
 subst e0
 subst e1
 exact yp (.tup [.agg (Ac p0), vi r2])
 refine yF h4 ⟨L9, [B1, B2], H⟩ ?_
 refine Ao ?_
 refine Ag ?_
 refine ysg ⟨L9 ++ [(24, vb (decide (p1 < (p0.Ends_.g 1))))], [B1, B2], H⟩ ?_
 rcases Ae hF with ⟨h5, hF⟩ | ⟨h5, hF⟩
 refine yT h5 ⟨[(3, vl 3 0), E6], [B1, B2], H⟩ ?_
 refine ysg ⟨[E6, (7, vi 32)], [(6, (Ac p0))], H⟩ ?_
 refine Au ?_
 obtain ⟨e0, e1⟩ := Ar hF
 subst e0
 subst e1
 exact yp (.tup [.agg (Ac p0), vi 32])
 refine yF h5 ⟨L9, [B1, B2], H⟩ ?_
 refine Ao ?_
 refine Ag ?_
 obtain ⟨r6, c7, hF⟩ := Ab hF
 let E8 : EN := (32, .agg (Ac r6))
 refine Aj ⟨[E6, (7, vi 0)], [(6, (Ac r6))], H⟩ ?_ ?_
 refine yr 6 ⟨L9 ++ L10 ++ [(31, .one (.own 1) (.sl 1 (List.map (eI .u32) ([p2] : List Int))))], [B1, B2], H⟩ ?_
 refine Ai ⟨L9 ++ L10 ++ [E7, E8], [B1, B2], H⟩ (yc (some 32) true true (⟨L9 ++ L10 ++ [E7], [B1, B2], H⟩ : St) (Wi H c7)) ?_
 refine yr 2 ⟨L9 ++ [(7, vi 0)] ++ L10 ++ [E7, E8], [B1, (6, (Ac r6))], H⟩ ?_
 exact ye
 refine Au ?_
 obtain ⟨e0, e1⟩ := Ar hF
 subst e0
 subst e1
 exact yp (.tup [.agg (Ac r6), vi 0])
end Go.Proofs.Abs
