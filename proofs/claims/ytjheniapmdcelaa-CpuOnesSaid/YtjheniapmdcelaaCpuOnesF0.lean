import Derived.Test.YtjheniapmdcelaaCpuOnesX
set_option linter.unusedVariables false
set_option linter.unusedSimpArgs false
set_option linter.unusedSectionVars false
namespace Go.Proofs.Abs
open Go Go.Proofs
set_option linter.unusedVariables false
set_option maxRecDepth 100000
set_option maxHeartbeats 0
noncomputable def Ig  (p0 : T_memory_Layout) : Option ((Arr 5 Int)) :=
  some (Ij [p0.Code_, p0.Tables_, p0.Data_, p0.Heap_, p0.Stack_] : Arr 5 Int)
theorem Q1 (H : Ah) {p0 : T_memory_Layout} {ra : (Arr 5 Int)} (hF : Ig p0 = some ra) : evS X 131 [.agg (Ba p0)] H = some (.agg (arM .u32 5 ra), H) := by
 refine yf Try.func131 true ⟨[(0, .agg (Ba p0))], [], H⟩ ?_
 unfold Ig at hF
 refine ysg ⟨[(1, vl 1 0), (2, vl 2 0)], [(1, (Ba p0)), (2, (List.replicate 5 (.top, .int .u32 0)))], H⟩ ?_
 refine ysg ⟨[(2, vl 2 0)], [(2, (Ba p0))], H⟩ ?_
 refine Au ?_
 obtain e0 := Am hF
 subst e0
 exact yp (.agg (Ba p0))
noncomputable def F1 (r1 : (Arr 5 Int)) (a3 : Int) (a4 : Int) : Option ((Int × Int) ⊕ (Unit ⊕ Unit)) :=
  if (decide (a4 < 5)) = true then (Af (ga r1 a4) fun v6 =>
  if ((decide (v6 < a3)) || (((Int.tmod v6 4) != 0) || (decide (v6 > 1048576)))) = true then (some (Sum.inr (Sum.inr ())))
  else (some (Sum.inl (v6, (IntKind.wrap .i64 (a4 + 1))))))
  else (some (Sum.inr (Sum.inl ())))
noncomputable def Lz  (p0 : T_memory_Layout) : Option (Bool) :=
  Af (Ig p0) fun r1 =>
  Af (Ik (fun (x : (Int × Int)) => F1 r1 x.1 x.2) (0, 0)) (fU (fun (_ : Unit) =>
  some true) (fun (_ : Unit) =>
  some false))
theorem Wa (H : Ah) {p0 : T_memory_Layout} {ra : Bool} (hF : Lz p0 = some ra) : evS X 112 [.agg (Ba p0)] H = some (.one .top (.bool ra), H) := by
 let B1 : EB := (1, (Ba p0))
 let L7 : List EN := [(1, vl 1 0), (3, vu 0), (6, .agg (Ba p0))]
 let S8 : St := ⟨[], [], H⟩
 let S9 : St := ⟨[(2, vF)], [], H⟩
 refine yf Try.func112 true ⟨[(0, .agg (Ba p0))], [], H⟩ ?_
 unfold Lz at hF
 refine ysg ⟨[(1, vl 1 0)], [B1], H⟩ ?_
 refine ysg ⟨[(1, vl 1 0), (3, vu 0)], [B1], H⟩ ?_
 refine Ag ?_
 refine Ag ?_
 obtain ⟨r1, c2, hF⟩ := Ab hF
 let E2 : EN := (7, .agg (arM .u32 5 r1))
 refine Aj ⟨[(3, vu 0), E2, (8, vi 0)], [], H⟩ ?_ ?_
 refine yr 1 ⟨L7, [B1], H⟩ ?_
 refine Ai ⟨L7 ++ [E2], [B1], H⟩ (yc (some 7) true false (⟨L7, [B1], H⟩ : St) (Q1 H c2)) ?_
 refine yr 1 ⟨L7 ++ [E2, (8, vi 0)], [B1], H⟩ ?_
 exact ye
 refine Bt ?_
 obtain ⟨r11, hL12, hF⟩ := Ab hF
 refine Qn (fun (x : (Int × Int)) => (⟨[(3, vu x.1), E2, (8, vi x.2)], [], H⟩ : St)) (Sum.elim (fun (y : Unit) => ((.exit 0, S8) : Ex × St)) (fun (y : Unit) => ((.ret, S9) : Ex × St))) hL12 (by kernel_rfl) ?_ ?_
 rintro ⟨a3, a4⟩ o hF
 replace hF : F1 r1 a3 a4 = some o := hF
 let L6 : List EN := [(3, vu a3), E2, (8, vi a4)]
 unfold F1 at hF
 refine ysg ⟨L6 ++ [(9, vb (decide (a4 < 5)))], [], H⟩ ?_
 refine Ag ?_
 rcases Ae hF with ⟨h5, hF⟩ | ⟨h5, hF⟩
 refine yT h5 ⟨L6, [], H⟩ ?_
 refine Ao ?_
 refine Ag ?_
 refine Bt ?_
 refine Ag ?_
 obtain ⟨v6, h7, hF⟩ := Ab hF
 let L3 : List EN := [(5, vu v6), E2, (8, vi a4)]
 let L4 : List EN := [(3, vu a3)] ++ L3 ++ [(11, vu v6), (12, vu a3)]
 let L5 : List EN := L4 ++ [(13, vF), (14, vF), (15, vu v6), (16, vu (Int.tmod v6 4))]
 refine Aj ⟨[(3, vu a3)] ++ L3, [], H⟩ ?_ ?_
 refine Ai ⟨L6 ++ [(10, vu v6)], [], H⟩ (pR (X := X) (⟨L6, [], H⟩ : St) 72 35 5 h7 (fun q => .int .u32 q) .i64 (arM .u32 5 r1) (some 10) (by kernel_rfl) (by kernel_rfl) (by kernel_rfl) (by kernel_rfl) (by kernel_rfl) (by kernel_rfl)) ?_
 refine yr 1 ⟨[(3, vu a3)] ++ L3 ++ [(10, vu v6)], [], H⟩ ?_
 exact ye
 refine Ag ?_
 refine yso ⟨L3 ++ [(22, vb ((decide (v6 < a3)) || (((Int.tmod v6 4) != 0) || (decide (v6 > 1048576)))))], [], H⟩ ?_ ?_
 refine yr 4 ⟨L4 ++ [(13, vb (decide (v6 < a3))), (14, vb (decide (v6 < a3)))], [], H⟩ ?_
 rcases Ax (decide (v6 < a3)) with h8 | h8
 refine Bd (congrArg (fun q => (⟨L4 ++ [(13, vb q), (14, vb q)], [], H⟩ : St)) h8) ?_
 refine yr 8 ⟨L4 ++ [(13, vT), (14, vT), (15, vN), (16, vN), (17, vN), (18, vT), (19, vT), (20, vN), (21, vN), (22, vT)], [], H⟩ ?_
 refine Bw (congrArg (fun q0 => (⟨L3 ++ [(22, vb q0)], [], H⟩ : St)) (show true = ((decide (v6 < a3)) || (((Int.tmod v6 4) != 0) || (decide (v6 > 1048576)))) by simp [h8])) ?_
 exact ye
 refine Bd (congrArg (fun q => (⟨L4 ++ [(13, vb q), (14, vb q)], [], H⟩ : St)) h8) ?_
 refine yr 5 ⟨L5 ++ [(17, vb ((Int.tmod v6 4) != 0)), (18, vb ((Int.tmod v6 4) != 0)), (19, vb ((Int.tmod v6 4) != 0))], [], H⟩ ?_
 rcases Ax ((Int.tmod v6 4) != 0) with h9 | h9
 refine Bd (congrArg (fun q => (⟨L5 ++ [(17, vb q), (18, vb q), (19, vb q)], [], H⟩ : St)) h9) ?_
 refine yr 3 ⟨L5 ++ [(17, vT), (18, vT), (19, vT), (20, vN), (21, vN), (22, vT)], [], H⟩ ?_
 refine Bw (congrArg (fun q0 => (⟨L3 ++ [(22, vb q0)], [], H⟩ : St)) (show true = ((decide (v6 < a3)) || (((Int.tmod v6 4) != 0) || (decide (v6 > 1048576)))) by simp [h8, h9])) ?_
 exact ye
 refine Bd (congrArg (fun q => (⟨L5 ++ [(17, vb q), (18, vb q), (19, vb q)], [], H⟩ : St)) h9) ?_
 refine yr 3 ⟨L5 ++ [(17, vF), (18, vF), (19, vF), (20, vu v6), (21, vb (decide (v6 > 1048576))), (22, vb (decide (v6 > 1048576)))], [], H⟩ ?_
 refine Bw (congrArg (fun q0 => (⟨L3 ++ [(22, vb q0)], [], H⟩ : St)) (show (decide (v6 > 1048576)) = ((decide (v6 < a3)) || (((Int.tmod v6 4) != 0) || (decide (v6 > 1048576)))) by simp [h8, h9])) ?_
 exact ye
 rcases Ae hF with ⟨h10, hF⟩ | ⟨h10, hF⟩
 refine yT h10 S8 ?_
 refine ysg S9 ?_
 refine Au ?_
 cases hF
 exact ⟨_, rfl, (by kernel_rfl)⟩
 refine yF h10 ⟨L3, [], H⟩ ?_
 refine Ao ?_
 refine yg ⟨[(3, vu v6), E2, (8, vi a4)], [], H⟩ ?_
 refine yg ⟨[(3, vu v6), E2, (8, vi (IntKind.wrap .i64 (a4 + 1)))], [], H⟩ ?_
 cases hF
 exact ⟨_, rfl, (by kernel_rfl)⟩
 refine yF h5 S8 ?_
 refine Ph ?_
 cases hF
 exact ⟨_, rfl, (by kernel_rfl)⟩
 rcases Ug hF with ⟨r11', rfl, hF⟩ | ⟨r11', rfl, hF⟩
 refine bT (i := 0) (s := S8) (by kernel_rfl) ?_
 refine Qm ?_
 refine ysg ⟨[(2, vT)], [], H⟩ ?_
 refine Au ?_
 obtain e0 := Am hF
 subst e0
 exact yp (vT)
 refine oC (s := S9) (by kernel_rfl) ?_
 obtain e0 := Am hF
 subst e0
 exact yp (vF)
noncomputable def Lc (H : Ah) (p0 : T_memory_Layout) : Option (Ah × Ptr × Int) :=
  Af (Lz p0) fun r1 =>
  if (!r1) = true then (some (H, Ptr.nil, 33))
  else (Af (mks 4 (IntKind.wrap .u32 (Int.tdiv p0.Stack_ 4)) (IntKind.wrap .u32 (Int.tdiv p0.Stack_ 4)) 0) fun v4 =>
  bnd H.length fun i7 =>
  bnd (Dn H (T_memory_Mem.mk p0 v4)) fun H6 =>
  some (H6, (Ptr.at i7 0), 0))
theorem Tb (H : Ah) {p0 : T_memory_Layout} {ra : Ptr} {rb : Int} {Hr : Ah} (hF : Lc H p0 = some (Hr, ra, rb)) : evS X 87 [.agg (Ba p0)] H = some (.tup [.one .top (Ptr.av ra), .one .top (.int .i64 rb)], Hr) := by
 let E1 : EN := (1, vl 1 0)
 let B2 : EB := (1, (Ba p0))
 let E3 : EN := (4, .agg (Ba p0))
 let E4 : EN := (7, .agg (Ba p0))
 let E5 : EN := (11, .one .top .junk)
 let E6 : EN := (12, .agg [(.top, .int .u32 p0.Code_), (.top, .int .u32 p0.Tables_), (.top, .int .u32 p0.Data_), (.top, .int .u32 p0.Heap_), (.top, .int .u32 p0.Stack_), (.top, .junk)])
 let E7 : EN := (10, vu (IntKind.wrap .u32 (Int.tdiv p0.Stack_ 4)))
 let L8 : List EN := [E4, (8, vl 1 4), (9, vu p0.Stack_)]
 let L9 : List EN := [E1] ++ L8 ++ [E7]
 refine yf Try.func87 false ⟨[(0, .agg (Ba p0))], [], H⟩ ?_
 unfold Lc at hF
 refine ysg ⟨[E1], [B2], H⟩ ?_
 refine Ag ?_
 refine Ag ?_
 obtain ⟨r1, c2, hF⟩ := Ab hF
 refine Aj ⟨[E1, (6, vb (!r1))], [B2], H⟩ ?_ ?_
 refine yr 1 ⟨[E1, E3], [B2], H⟩ ?_
 refine Ai ⟨[E1, E3, (5, vb r1)], [B2], H⟩ (yc (some 5) true false (⟨[E1, E3], [B2], H⟩ : St) (Wa H c2)) ?_
 refine yr 1 ⟨[E1, E3, (5, vb r1), (6, vb (!r1))], [B2], H⟩ ?_
 exact ye
 rcases Ae hF with ⟨h3, hF⟩ | ⟨h3, hF⟩
 refine yT h3 ⟨[], [], H⟩ ?_
 refine ysg ⟨[(2, .one .top .nilp), (3, vi 33)], [], H⟩ ?_
 refine Au ?_
 obtain ⟨e0, e1, e2⟩ := U6 hF
 subst e0
 subst e1
 subst e2
 exact yi (.tup [.one .top .nilp, vi 33])
 refine yF h3 ⟨[E1], [B2], H⟩ ?_
 refine Ao ?_
 refine Ag ?_
 obtain ⟨v4, h5, hF⟩ := Ab hF
 obtain ⟨i7, h9, hF⟩ := Cl hF
 obtain ⟨H6, h8, hF⟩ := Cl hF
 refine Bs (.take 0 (.take 1 (.take 2 (.take 3 (.last 4 (.take 5 (.last 6 (.take 7 (.take 8 .done))))))))) (by kernel_rfl) (⟨[(2, vo i7 0), (3, vi 0)], [], H6⟩ : St) ?_ ?_
 refine ydk 4 ⟨L9, [B2], H⟩ ?_
 refine Br ⟨L9 ++ [(11, .one (.own 1) (.sl 1 (List.map (eI .u32) v4)))], [B2], H⟩ (dZ (X := X) (⟨L9, [B2], H⟩ : St) 4 h5 42 35 1 [(.top, .int .u32 0)] (eI .u32) 0 (.u32) (.u32) (some 11) (by kernel_rfl) (by kernel_rfl) (by kernel_rfl) (by kernel_rfl) (by kernel_rfl) (by kernel_rfl) (by kernel_rfl) (by kernel_rfl) (by kernel_rfl) (by kernel_rfl)) ?_
 refine ydt ⟨L9 ++ [E5, (12, .agg [(.top, .int .u32 p0.Code_), (.top, .int .u32 p0.Tables_), (.top, .int .u32 p0.Data_), (.top, .int .u32 p0.Heap_), (.top, .int .u32 p0.Stack_), ((.own 1), .sl 1 (List.map (eI .u32) v4))])], [B2], H⟩ ?_
 refine ydl ⟨L9 ++ [E5, E6, (13, vo H.length 0)], [B2], (H ++ [[(.top, .int .u32 p0.Code_), (.top, .int .u32 p0.Tables_), (.top, .int .u32 p0.Data_), (.top, .int .u32 p0.Heap_), (.top, .int .u32 p0.Stack_), ((.own 1), .sl 1 (List.map (eI .u32) v4))]])⟩ ?_
 refine Fi (fX (fun q u => (⟨L9 ++ [E5, E6, (13, vo q 0)], [B2], u⟩ : St)) h9 h8) ?_
 refine ydk 2 ⟨[E1, (2, vo i7 0), (3, vi 0)] ++ L8 ++ [E7, E5, E6, (13, vo i7 0)], [B2], H6⟩ ?_
 exact yde
 refine Au ?_
 obtain ⟨e0, e1, e2⟩ := U6 hF
 subst e0
 subst e1
 subst e2
 exact yi (.tup [vo i7 0, vi 0])
noncomputable def J2 (p0 : Int) (j14 : Bool) : Option (Int) :=
  if j14 = true then (some 7)
  else (if (p0 == 28) = true then (some 8)
  else (some (-1)))
noncomputable def J3 (p0 : Int) (j12 : Bool) : Option (Int) :=
  if j12 = true then (some 6)
  else (if (p0 == 22) = true then (J2 p0 (p0 == 22))
  else (J2 p0 (p0 == 23)))
noncomputable def J4 (p0 : Int) (j19 : Bool) : Option (Int) :=
  J3 p0 j19
noncomputable def J5 (p0 : Int) (j21 : Bool) : Option (Int) :=
  J4 p0 j21
noncomputable def Im (p0 : Int) (j23 : Bool) : Option (Int) :=
  J5 p0 j23
noncomputable def In (p0 : Int) (j25 : Bool) : Option (Int) :=
  Im p0 j25
noncomputable def J6 (p0 : Int) (j10 : Bool) : Option (Int) :=
  if j10 = true then (some 5)
  else (if (p0 == 24) = true then (J3 p0 (p0 == 24))
  else (if (p0 == 25) = true then (J4 p0 (p0 == 25))
  else (if (p0 == 27) = true then (J5 p0 (p0 == 27))
  else (if (p0 == 29) = true then (Im p0 (p0 == 29))
  else (if (p0 == 31) = true then (In p0 (p0 == 31))
  else (In p0 (p0 == 32)))))))
noncomputable def Io (p0 : Int) (j28 : Bool) : Option (Int) :=
  J6 p0 j28
noncomputable def Ip (p0 : Int) (j30 : Bool) : Option (Int) :=
  Io p0 j30
noncomputable def Iq (p0 : Int) (j32 : Bool) : Option (Int) :=
  Ip p0 j32
noncomputable def Ir (p0 : Int) (j34 : Bool) : Option (Int) :=
  Iq p0 j34
noncomputable def Is (p0 : Int) (j36 : Bool) : Option (Int) :=
  Ir p0 j36
noncomputable def Iu (p0 : Int) (j38 : Bool) : Option (Int) :=
  Is p0 j38
noncomputable def Iv (p0 : Int) (j40 : Bool) : Option (Int) :=
  Iu p0 j40
noncomputable def Iw (p0 : Int) (j42 : Bool) : Option (Int) :=
  Iv p0 j42
noncomputable def Ix (p0 : Int) (j44 : Bool) : Option (Int) :=
  Iw p0 j44
noncomputable def Iy (p0 : Int) (j46 : Bool) : Option (Int) :=
  Ix p0 j46
noncomputable def J7 (p0 : Int) (j8 : Bool) : Option (Int) :=
  if j8 = true then (some 4)
  else (if (p0 == 6) = true then (J6 p0 (p0 == 6))
  else (if (p0 == 7) = true then (Io p0 (p0 == 7))
  else (if (p0 == 8) = true then (Ip p0 (p0 == 8))
  else (if (p0 == 9) = true then (Iq p0 (p0 == 9))
  else (if (p0 == 10) = true then (Ir p0 (p0 == 10))
  else (if (p0 == 11) = true then (Is p0 (p0 == 11))
  else (if (p0 == 12) = true then (Iu p0 (p0 == 12))
  else (if (p0 == 13) = true then (Iv p0 (p0 == 13))
  else (if (p0 == 14) = true then (Iw p0 (p0 == 14))
  else (if (p0 == 15) = true then (Ix p0 (p0 == 15))
  else (if (p0 == 16) = true then (Iy p0 (p0 == 16))
  else (Iy p0 (p0 == 17)))))))))))))
noncomputable def Iz (p0 : Int) (j49 : Bool) : Option (Int) :=
  J7 p0 j49
noncomputable def J8 (p0 : Int) (j6 : Bool) : Option (Int) :=
  if j6 = true then (some 3)
  else (if (p0 == 4) = true then (J7 p0 (p0 == 4))
  else (if (p0 == 34) = true then (Iz p0 (p0 == 34))
  else (Iz p0 (p0 == 26))))
noncomputable def I0 (p0 : Int) (j52 : Bool) : Option (Int) :=
  J8 p0 j52
noncomputable def J9 (p0 : Int) (j4 : Bool) : Option (Int) :=
  if j4 = true then (some 2)
  else (if (p0 == 5) = true then (J8 p0 (p0 == 5))
  else (if (p0 == 18) = true then (I0 p0 (p0 == 18))
  else (I0 p0 (p0 == 19))))
noncomputable def I3 (p0 : Int) (j55 : Bool) : Option (Int) :=
  J9 p0 j55
noncomputable def Ka (p0 : Int) (j2 : Bool) : Option (Int) :=
  if j2 = true then (some 1)
  else (if (p0 == 3) = true then (J9 p0 (p0 == 3))
  else (if (p0 == 30) = true then (I3 p0 (p0 == 30))
  else (I3 p0 (p0 == 33))))
noncomputable def I4 (p0 : Int) (j58 : Bool) : Option (Int) :=
  Ka p0 j58
noncomputable def D7  (p0 : Int) : Option (Int) :=
  if (p0 == 1) = true then (some 0)
  else (if (p0 == 2) = true then (Ka p0 (p0 == 2))
  else (if (p0 == 20) = true then (I4 p0 (p0 == 20))
  else (I4 p0 (p0 == 21))))
theorem Ma (H : Ah) {p0 : Int} {ra : Int} (hF : D7 p0 = some ra) : evS X 102 [.one .top (.int .i64 p0)] H = some (.one .top (.int .i64 ra), H) := by
 let E1 : EN := (3, vi p0)
 let S2 : St := ⟨[E1], [], H⟩
 let S3 : St := ⟨[], [], H⟩
 let S4 : St := ⟨[E1, (6, vb (p0 == 2))], [], H⟩
 let S5 : St := ⟨[E1, (10, vb (p0 == 3))], [], H⟩
 let S6 : St := ⟨[E1, (14, vb (p0 == 5))], [], H⟩
 let S7 : St := ⟨[E1, (18, vb (p0 == 4))], [], H⟩
 let S8 : St := ⟨[E1, (22, vb (p0 == 6))], [], H⟩
 let S9 : St := ⟨[E1, (35, vb (p0 == 24))], [], H⟩
 let S10 : St := ⟨[E1, (42, vb (p0 == 22))], [], H⟩
 let S11 : St := ⟨[E1, (35, vb (p0 == 25))], [], H⟩
 let S12 : St := ⟨[E1, (35, vb (p0 == 27))], [], H⟩
 let S13 : St := ⟨[E1, (35, vb (p0 == 29))], [], H⟩
 let S14 : St := ⟨[E1, (35, vb (p0 == 31))], [], H⟩
 let S15 : St := ⟨[E1, (22, vb (p0 == 7))], [], H⟩
 let S16 : St := ⟨[E1, (22, vb (p0 == 8))], [], H⟩
 let S17 : St := ⟨[E1, (22, vb (p0 == 9))], [], H⟩
 let S18 : St := ⟨[E1, (22, vb (p0 == 10))], [], H⟩
 let S19 : St := ⟨[E1, (22, vb (p0 == 11))], [], H⟩
 let S20 : St := ⟨[E1, (22, vb (p0 == 12))], [], H⟩
 let S21 : St := ⟨[E1, (22, vb (p0 == 13))], [], H⟩
 let S22 : St := ⟨[E1, (22, vb (p0 == 14))], [], H⟩
 let S23 : St := ⟨[E1, (22, vb (p0 == 15))], [], H⟩
 let S24 : St := ⟨[E1, (22, vb (p0 == 16))], [], H⟩
 let S25 : St := ⟨[E1, (18, vb (p0 == 34))], [], H⟩
 let S26 : St := ⟨[E1, (14, vb (p0 == 18))], [], H⟩
 let S27 : St := ⟨[E1, (10, vb (p0 == 30))], [], H⟩
 let S28 : St := ⟨[E1, (6, vb (p0 == 20))], [], H⟩
 refine yf Try.func102 true ⟨[(0, vi p0)], [], H⟩ ?_
 unfold D7 at hF
 refine ysg ⟨[(0, vi p0)], [], H⟩ ?_
 refine Ag ?_
 refine ysg S2 ?_
 refine Bt ?_
 refine ysg ⟨[E1, (4, vb (p0 == 1))], [], H⟩ ?_
 rcases Ae hF with ⟨h1, hF⟩ | ⟨h1, hF⟩
 refine yT h1 S3 ?_
 refine ysg ⟨[(2, vi 0)], [], H⟩ ?_
 refine Au ?_
 obtain e0 := Am hF
 subst e0
 exact yp (vi 0)
 refine yF h1 S2 ?_
 refine Ag ?_
 refine ysg S4 ?_
 refine As (α := (Bool)) (fun x => (⟨[E1, (6, vb x)], [], H⟩ : St)) (fun x => Ka p0 x = some ra) ?_ ?_
 rintro j2 hF
 replace hF : Ka p0 j2 = some ra := hF
 unfold Ka at hF
 rcases Ae hF with ⟨h3, hF⟩ | ⟨h3, hF⟩
 refine yT h3 S3 ?_
 refine ysg ⟨[(2, vi 1)], [], H⟩ ?_
 refine Au ?_
 obtain e0 := Am hF
 subst e0
 exact yp (vi 1)
 refine yF h3 S2 ?_
 refine Ag ?_
 refine ysg S5 ?_
 refine As (α := (Bool)) (fun x => (⟨[E1, (10, vb x)], [], H⟩ : St)) (fun x => J9 p0 x = some ra) ?_ ?_
 rintro j4 hF
 replace hF : J9 p0 j4 = some ra := hF
 unfold J9 at hF
 rcases Ae hF with ⟨h5, hF⟩ | ⟨h5, hF⟩
 refine yT h5 S3 ?_
 refine ysg ⟨[(2, vi 2)], [], H⟩ ?_
 refine Au ?_
 obtain e0 := Am hF
 subst e0
 exact yp (vi 2)
 refine yF h5 S2 ?_
 refine Ag ?_
 refine ysg S6 ?_
 refine As (α := (Bool)) (fun x => (⟨[E1, (14, vb x)], [], H⟩ : St)) (fun x => J8 p0 x = some ra) ?_ ?_
 rintro j6 hF
 replace hF : J8 p0 j6 = some ra := hF
 unfold J8 at hF
 rcases Ae hF with ⟨h7, hF⟩ | ⟨h7, hF⟩
 refine yT h7 S3 ?_
 refine ysg ⟨[(2, vi 3)], [], H⟩ ?_
 refine Au ?_
 obtain e0 := Am hF
 subst e0
 exact yp (vi 3)
 refine yF h7 S2 ?_
 refine Ag ?_
 refine ysg S7 ?_
 refine As (α := (Bool)) (fun x => (⟨[E1, (18, vb x)], [], H⟩ : St)) (fun x => J7 p0 x = some ra) ?_ ?_
 rintro j8 hF
 replace hF : J7 p0 j8 = some ra := hF
 unfold J7 at hF
 rcases Ae hF with ⟨h9, hF⟩ | ⟨h9, hF⟩
 refine yT h9 S3 ?_
 refine ysg ⟨[(2, vi 4)], [], H⟩ ?_
 refine Au ?_
 obtain e0 := Am hF
 subst e0
 exact yp (vi 4)
 refine yF h9 S2 ?_
 refine Ag ?_
 refine ysg S8 ?_
 refine As (α := (Bool)) (fun x => (⟨[E1, (22, vb x)], [], H⟩ : St)) (fun x => J6 p0 x = some ra) ?_ ?_
 rintro j10 hF
 replace hF : J6 p0 j10 = some ra := hF
 unfold J6 at hF
 rcases Ae hF with ⟨h11, hF⟩ | ⟨h11, hF⟩
 refine yT h11 S3 ?_
 refine ysg ⟨[(2, vi 5)], [], H⟩ ?_
 refine Au ?_
 obtain e0 := Am hF
 subst e0
 exact yp (vi 5)
 refine yF h11 S2 ?_
 refine Ag ?_
 refine ysg S9 ?_
 refine As (α := (Bool)) (fun x => (⟨[E1, (35, vb x)], [], H⟩ : St)) (fun x => J3 p0 x = some ra) ?_ ?_
 rintro j12 hF
 replace hF : J3 p0 j12 = some ra := hF
 unfold J3 at hF
 rcases Ae hF with ⟨h13, hF⟩ | ⟨h13, hF⟩
 refine yT h13 S3 ?_
 refine ysg ⟨[(2, vi 6)], [], H⟩ ?_
 refine Au ?_
 obtain e0 := Am hF
 subst e0
 exact yp (vi 6)
 refine yF h13 S2 ?_
 refine Ag ?_
 refine ysg S10 ?_
 refine As (α := (Bool)) (fun x => (⟨[E1, (42, vb x)], [], H⟩ : St)) (fun x => J2 p0 x = some ra) ?_ ?_
 rintro j14 hF
 replace hF : J2 p0 j14 = some ra := hF
 unfold J2 at hF
 rcases Ae hF with ⟨h15, hF⟩ | ⟨h15, hF⟩
 refine yT h15 S3 ?_
 refine ysg ⟨[(2, vi 7)], [], H⟩ ?_
 refine Au ?_
 obtain e0 := Am hF
 subst e0
 exact yp (vi 7)
 refine yF h15 S2 ?_
 refine ysg ⟨[(45, vb (p0 == 28))], [], H⟩ ?_
 rcases Ae hF with ⟨h16, hF⟩ | ⟨h16, hF⟩
 refine yT h16 S3 ?_
 refine ysg ⟨[(2, vi 8)], [], H⟩ ?_
 refine Au ?_
 obtain e0 := Am hF
 subst e0
 exact yp (vi 8)
 refine yF h16 S3 ?_
 refine Ao ?_
 refine ysg ⟨[(2, vi (-1))], [], H⟩ ?_
 refine Au ?_
 obtain e0 := Am hF
 subst e0
 exact yp (vi (-1))
 rcases Ae hF with ⟨h17, hF⟩ | ⟨h17, hF⟩
 refine yT h17 S10 ?_
 refine Ao ?_
 exact ⟨(p0 == 22), hF, (by kernel_rfl)⟩
 refine yF h17 S2 ?_
 refine yg ⟨[E1, (42, vb (p0 == 23))], [], H⟩ ?_
 exact ⟨(p0 == 23), hF, (by kernel_rfl)⟩
 rcases Ae hF with ⟨h18, hF⟩ | ⟨h18, hF⟩
 refine yT h18 S9 ?_
 refine Ao ?_
 exact ⟨(p0 == 24), hF, (by kernel_rfl)⟩
 refine yF h18 S2 ?_
 refine ysg S11 ?_
 refine As (α := (Bool)) (fun x => (⟨[E1, (35, vb x)], [], H⟩ : St)) (fun x => J4 p0 x = some ra) ?_ ?_
 rintro j19 hF
 replace hF : J4 p0 j19 = some ra := hF
 unfold J4 at hF
 exact ⟨j19, hF, (by kernel_rfl)⟩
 rcases Ae hF with ⟨h20, hF⟩ | ⟨h20, hF⟩
 refine yT h20 S11 ?_
 refine Ao ?_
 exact ⟨(p0 == 25), hF, (by kernel_rfl)⟩
 refine yF h20 S2 ?_
 refine ysg S12 ?_
 refine As (α := (Bool)) (fun x => (⟨[E1, (35, vb x)], [], H⟩ : St)) (fun x => J5 p0 x = some ra) ?_ ?_
 rintro j21 hF
 replace hF : J5 p0 j21 = some ra := hF
 unfold J5 at hF
 exact ⟨j21, hF, (by kernel_rfl)⟩
 rcases Ae hF with ⟨h22, hF⟩ | ⟨h22, hF⟩
 refine yT h22 S12 ?_
 refine Ao ?_
 exact ⟨(p0 == 27), hF, (by kernel_rfl)⟩
 refine yF h22 S2 ?_
 refine ysg S13 ?_
 refine As (α := (Bool)) (fun x => (⟨[E1, (35, vb x)], [], H⟩ : St)) (fun x => Im p0 x = some ra) ?_ ?_
 rintro j23 hF
 replace hF : Im p0 j23 = some ra := hF
 unfold Im at hF
 exact ⟨j23, hF, (by kernel_rfl)⟩
 rcases Ae hF with ⟨h24, hF⟩ | ⟨h24, hF⟩
 refine yT h24 S13 ?_
 refine Ao ?_
 exact ⟨(p0 == 29), hF, (by kernel_rfl)⟩
 refine yF h24 S2 ?_
 refine ysg S14 ?_
 refine As (α := (Bool)) (fun x => (⟨[E1, (35, vb x)], [], H⟩ : St)) (fun x => In p0 x = some ra) ?_ ?_
 rintro j25 hF
 replace hF : In p0 j25 = some ra := hF
 unfold In at hF
 exact ⟨j25, hF, (by kernel_rfl)⟩
 rcases Ae hF with ⟨h26, hF⟩ | ⟨h26, hF⟩
 refine yT h26 S14 ?_
 refine Ao ?_
 exact ⟨(p0 == 31), hF, (by kernel_rfl)⟩
 refine yF h26 S2 ?_
 refine yg ⟨[E1, (35, vb (p0 == 32))], [], H⟩ ?_
 exact ⟨(p0 == 32), hF, (by kernel_rfl)⟩
 rcases Ae hF with ⟨h27, hF⟩ | ⟨h27, hF⟩
 refine yT h27 S8 ?_
 refine Ao ?_
 exact ⟨(p0 == 6), hF, (by kernel_rfl)⟩
 refine yF h27 S2 ?_
 refine ysg S15 ?_
 refine As (α := (Bool)) (fun x => (⟨[E1, (22, vb x)], [], H⟩ : St)) (fun x => Io p0 x = some ra) ?_ ?_
 rintro j28 hF
 replace hF : Io p0 j28 = some ra := hF
 unfold Io at hF
 exact ⟨j28, hF, (by kernel_rfl)⟩
 rcases Ae hF with ⟨h29, hF⟩ | ⟨h29, hF⟩
 refine yT h29 S15 ?_
 refine Ao ?_
 exact ⟨(p0 == 7), hF, (by kernel_rfl)⟩
 refine yF h29 S2 ?_
 refine ysg S16 ?_
 refine As (α := (Bool)) (fun x => (⟨[E1, (22, vb x)], [], H⟩ : St)) (fun x => Ip p0 x = some ra) ?_ ?_
 rintro j30 hF
 replace hF : Ip p0 j30 = some ra := hF
 unfold Ip at hF
 exact ⟨j30, hF, (by kernel_rfl)⟩
 rcases Ae hF with ⟨h31, hF⟩ | ⟨h31, hF⟩
 refine yT h31 S16 ?_
 refine Ao ?_
 exact ⟨(p0 == 8), hF, (by kernel_rfl)⟩
 refine yF h31 S2 ?_
 refine ysg S17 ?_
 refine As (α := (Bool)) (fun x => (⟨[E1, (22, vb x)], [], H⟩ : St)) (fun x => Iq p0 x = some ra) ?_ ?_
 rintro j32 hF
 replace hF : Iq p0 j32 = some ra := hF
 unfold Iq at hF
 exact ⟨j32, hF, (by kernel_rfl)⟩
 rcases Ae hF with ⟨h33, hF⟩ | ⟨h33, hF⟩
 refine yT h33 S17 ?_
 refine Ao ?_
 exact ⟨(p0 == 9), hF, (by kernel_rfl)⟩
 refine yF h33 S2 ?_
 refine ysg S18 ?_
 refine As (α := (Bool)) (fun x => (⟨[E1, (22, vb x)], [], H⟩ : St)) (fun x => Ir p0 x = some ra) ?_ ?_
 rintro j34 hF
 replace hF : Ir p0 j34 = some ra := hF
 unfold Ir at hF
 exact ⟨j34, hF, (by kernel_rfl)⟩
 rcases Ae hF with ⟨h35, hF⟩ | ⟨h35, hF⟩
 refine yT h35 S18 ?_
 refine Ao ?_
 exact ⟨(p0 == 10), hF, (by kernel_rfl)⟩
 refine yF h35 S2 ?_
 refine ysg S19 ?_
 refine As (α := (Bool)) (fun x => (⟨[E1, (22, vb x)], [], H⟩ : St)) (fun x => Is p0 x = some ra) ?_ ?_
 rintro j36 hF
 replace hF : Is p0 j36 = some ra := hF
 unfold Is at hF
 exact ⟨j36, hF, (by kernel_rfl)⟩
 rcases Ae hF with ⟨h37, hF⟩ | ⟨h37, hF⟩
 refine yT h37 S19 ?_
 refine Ao ?_
 exact ⟨(p0 == 11), hF, (by kernel_rfl)⟩
 refine yF h37 S2 ?_
 refine ysg S20 ?_
 refine As (α := (Bool)) (fun x => (⟨[E1, (22, vb x)], [], H⟩ : St)) (fun x => Iu p0 x = some ra) ?_ ?_
 rintro j38 hF
 replace hF : Iu p0 j38 = some ra := hF
 unfold Iu at hF
 exact ⟨j38, hF, (by kernel_rfl)⟩
 rcases Ae hF with ⟨h39, hF⟩ | ⟨h39, hF⟩
 refine yT h39 S20 ?_
 refine Ao ?_
 exact ⟨(p0 == 12), hF, (by kernel_rfl)⟩
 refine yF h39 S2 ?_
 refine ysg S21 ?_
 refine As (α := (Bool)) (fun x => (⟨[E1, (22, vb x)], [], H⟩ : St)) (fun x => Iv p0 x = some ra) ?_ ?_
 rintro j40 hF
 replace hF : Iv p0 j40 = some ra := hF
 unfold Iv at hF
 exact ⟨j40, hF, (by kernel_rfl)⟩
 rcases Ae hF with ⟨h41, hF⟩ | ⟨h41, hF⟩
 refine yT h41 S21 ?_
 refine Ao ?_
 exact ⟨(p0 == 13), hF, (by kernel_rfl)⟩
 refine yF h41 S2 ?_
 refine ysg S22 ?_
 refine As (α := (Bool)) (fun x => (⟨[E1, (22, vb x)], [], H⟩ : St)) (fun x => Iw p0 x = some ra) ?_ ?_
 rintro j42 hF
 replace hF : Iw p0 j42 = some ra := hF
 unfold Iw at hF
 exact ⟨j42, hF, (by kernel_rfl)⟩
 rcases Ae hF with ⟨h43, hF⟩ | ⟨h43, hF⟩
 refine yT h43 S22 ?_
 refine Ao ?_
 exact ⟨(p0 == 14), hF, (by kernel_rfl)⟩
 refine yF h43 S2 ?_
 refine ysg S23 ?_
 refine As (α := (Bool)) (fun x => (⟨[E1, (22, vb x)], [], H⟩ : St)) (fun x => Ix p0 x = some ra) ?_ ?_
 rintro j44 hF
 replace hF : Ix p0 j44 = some ra := hF
 unfold Ix at hF
 exact ⟨j44, hF, (by kernel_rfl)⟩
 rcases Ae hF with ⟨h45, hF⟩ | ⟨h45, hF⟩
 refine yT h45 S23 ?_
 refine Ao ?_
 exact ⟨(p0 == 15), hF, (by kernel_rfl)⟩
 refine yF h45 S2 ?_
 refine ysg S24 ?_
 refine As (α := (Bool)) (fun x => (⟨[E1, (22, vb x)], [], H⟩ : St)) (fun x => Iy p0 x = some ra) ?_ ?_
 rintro j46 hF
 replace hF : Iy p0 j46 = some ra := hF
 unfold Iy at hF
 exact ⟨j46, hF, (by kernel_rfl)⟩
 rcases Ae hF with ⟨h47, hF⟩ | ⟨h47, hF⟩
 refine yT h47 S24 ?_
 refine Ao ?_
 exact ⟨(p0 == 16), hF, (by kernel_rfl)⟩
 refine yF h47 S2 ?_
 refine yg ⟨[E1, (22, vb (p0 == 17))], [], H⟩ ?_
 exact ⟨(p0 == 17), hF, (by kernel_rfl)⟩
 rcases Ae hF with ⟨h48, hF⟩ | ⟨h48, hF⟩
 refine yT h48 S7 ?_
 refine Ao ?_
 exact ⟨(p0 == 4), hF, (by kernel_rfl)⟩
 refine yF h48 S2 ?_
 refine ysg S25 ?_
 refine As (α := (Bool)) (fun x => (⟨[E1, (18, vb x)], [], H⟩ : St)) (fun x => Iz p0 x = some ra) ?_ ?_
 rintro j49 hF
 replace hF : Iz p0 j49 = some ra := hF
 unfold Iz at hF
 exact ⟨j49, hF, (by kernel_rfl)⟩
 rcases Ae hF with ⟨h50, hF⟩ | ⟨h50, hF⟩
 refine yT h50 S25 ?_
 refine Ao ?_
 exact ⟨(p0 == 34), hF, (by kernel_rfl)⟩
 refine yF h50 S2 ?_
 refine yg ⟨[E1, (18, vb (p0 == 26))], [], H⟩ ?_
 exact ⟨(p0 == 26), hF, (by kernel_rfl)⟩
 rcases Ae hF with ⟨h51, hF⟩ | ⟨h51, hF⟩
 refine yT h51 S6 ?_
 refine Ao ?_
 exact ⟨(p0 == 5), hF, (by kernel_rfl)⟩
 refine yF h51 S2 ?_
 refine ysg S26 ?_
 refine As (α := (Bool)) (fun x => (⟨[E1, (14, vb x)], [], H⟩ : St)) (fun x => I0 p0 x = some ra) ?_ ?_
 rintro j52 hF
 replace hF : I0 p0 j52 = some ra := hF
 unfold I0 at hF
 exact ⟨j52, hF, (by kernel_rfl)⟩
 rcases Ae hF with ⟨h53, hF⟩ | ⟨h53, hF⟩
 refine yT h53 S26 ?_
 refine Ao ?_
 exact ⟨(p0 == 18), hF, (by kernel_rfl)⟩
 refine yF h53 S2 ?_
 refine yg ⟨[E1, (14, vb (p0 == 19))], [], H⟩ ?_
 exact ⟨(p0 == 19), hF, (by kernel_rfl)⟩
 rcases Ae hF with ⟨h54, hF⟩ | ⟨h54, hF⟩
 refine yT h54 S5 ?_
 refine Ao ?_
 exact ⟨(p0 == 3), hF, (by kernel_rfl)⟩
 refine yF h54 S2 ?_
 refine ysg S27 ?_
 refine As (α := (Bool)) (fun x => (⟨[E1, (10, vb x)], [], H⟩ : St)) (fun x => I3 p0 x = some ra) ?_ ?_
 rintro j55 hF
 replace hF : I3 p0 j55 = some ra := hF
 unfold I3 at hF
 exact ⟨j55, hF, (by kernel_rfl)⟩
 rcases Ae hF with ⟨h56, hF⟩ | ⟨h56, hF⟩
 refine yT h56 S27 ?_
 refine Ao ?_
 exact ⟨(p0 == 30), hF, (by kernel_rfl)⟩
 refine yF h56 S2 ?_
 refine yg ⟨[E1, (10, vb (p0 == 33))], [], H⟩ ?_
 exact ⟨(p0 == 33), hF, (by kernel_rfl)⟩
 rcases Ae hF with ⟨h57, hF⟩ | ⟨h57, hF⟩
 refine yT h57 S4 ?_
 refine Ao ?_
 exact ⟨(p0 == 2), hF, (by kernel_rfl)⟩
 refine yF h57 S2 ?_
 refine ysg S28 ?_
 refine As (α := (Bool)) (fun x => (⟨[E1, (6, vb x)], [], H⟩ : St)) (fun x => I4 p0 x = some ra) ?_ ?_
 rintro j58 hF
 replace hF : I4 p0 j58 = some ra := hF
 unfold I4 at hF
 exact ⟨j58, hF, (by kernel_rfl)⟩
 rcases Ae hF with ⟨h59, hF⟩ | ⟨h59, hF⟩
 refine yT h59 S28 ?_
 refine Ao ?_
 exact ⟨(p0 == 20), hF, (by kernel_rfl)⟩
 refine yF h59 S2 ?_
 refine yg ⟨[E1, (6, vb (p0 == 21))], [], H⟩ ?_
 exact ⟨(p0 == 21), hF, (by kernel_rfl)⟩
noncomputable def Mv  (p0 : Int) : Option (Bool) :=
  some ((decide (p0 ≥ 0)) && (decide (p0 < 16)))
theorem Qr (H : Ah) {p0 : Int} {ra : Bool} (hF : Mv p0 = some ra) : evS X 132 [.one .top (.int .i64 p0)] H = some (.one .top (.bool ra), H) := by
 let E1 : EN := (0, vi p0)
 let E2 : EN := (3, vi p0)
 refine yf Try.func132 true ⟨[E1], [], H⟩ ?_
 unfold Mv at hF
 refine ysg ⟨[E1], [], H⟩ ?_
 refine yso ⟨[(2, vb ((decide (p0 ≥ 0)) && (decide (p0 < 16))))], [], H⟩ ?_ ?_
 refine yr 3 ⟨[E1, E2, (4, vb (decide (p0 ≥ 0))), (5, vb (decide (p0 ≥ 0)))], [], H⟩ ?_
 rcases Ax (decide (p0 ≥ 0)) with h1 | h1
 refine Bd (congrArg (fun q => (⟨[E1, E2, (4, vb q), (5, vb q)], [], H⟩ : St)) h1) ?_
 refine yr 4 ⟨[E1, (2, vb (decide (p0 < 16))), E2, (4, vT), (5, vT), (6, vi p0), (7, vb (decide (p0 < 16))), (8, vb (decide (p0 < 16)))], [], H⟩ ?_
 refine Bw (congrArg (fun q0 => (⟨[(2, vb q0)], [], H⟩ : St)) (show (decide (p0 < 16)) = ((decide (p0 ≥ 0)) && (decide (p0 < 16))) by simp [h1])) ?_
 exact ye
 refine Bd (congrArg (fun q => (⟨[E1, E2, (4, vb q), (5, vb q)], [], H⟩ : St)) h1) ?_
 refine yr 4 ⟨[E1, (2, vF), E2, (4, vF), (5, vF), (6, vN), (7, vN), (8, vF)], [], H⟩ ?_
 refine Bw (congrArg (fun q0 => (⟨[(2, vb q0)], [], H⟩ : St)) (show false = ((decide (p0 ≥ 0)) && (decide (p0 < 16))) by simp [h1])) ?_
 exact ye
 refine Au ?_
 obtain e0 := Am hF
 subst e0
 exact yp (vb ((decide (p0 ≥ 0)) && (decide (p0 < 16))))
noncomputable def Oc  (p0 : Int) (p1 : Int) : Option (Bool) :=
  if (decide (p1 < 1)) = true then (some false)
  else (Af (Qz .i64 (-1) (IntKind.wrap .i64 ((if 40 < p1 then 40 else p1) - 1))) fun v2 =>
  Af (if (decide (p0 ≥ v2)) = true then (Af (Qz .i64 1 (IntKind.wrap .i64 ((if 40 < p1 then 40 else p1) - 1))) fun v5 =>
  some (decide (p0 < v5))) else (some false)) fun w7 =>
  some w7)
theorem Un (H : Ah) {p0 : Int} {p1 : Int} {ra : Bool} (hF : Oc p0 p1 = some ra) : evS X 67 [.one .top (.int .i64 p0), .one .top (.int .i64 p1)] H = some (.one .top (.bool ra), H) := by
 let E1 : EN := (0, vi p0)
 let E2 : EN := (5, vi (IntKind.wrap .i64 ((if 40 < p1 then 40 else p1) - 1)))
 let L3 : List EN := [E2, (11, vi p0), (12, vi (IntKind.wrap .i64 ((if 40 < p1 then 40 else p1) - 1)))]
 let L5 : List EN := [(14, vT), (15, vT), (16, vi p0), (17, vi (IntKind.wrap .i64 ((if 40 < p1 then 40 else p1) - 1)))]
 let S6 : St := ⟨[E1, (1, vi p1)], [], H⟩
 refine yf Try.func67 true S6 ?_
 unfold Oc at hF
 refine ysg S6 ?_
 refine Ag ?_
 refine ysg ⟨[E1, (1, vi p1), (7, vb (decide (p1 < 1)))], [], H⟩ ?_
 rcases Ae hF with ⟨h1, hF⟩ | ⟨h1, hF⟩
 refine yT h1 ⟨[], [], H⟩ ?_
 refine ysg ⟨[(4, vF)], [], H⟩ ?_
 refine Au ?_
 obtain e0 := Am hF
 subst e0
 exact yp (vF)
 refine yF h1 S6 ?_
 refine Ao ?_
 refine ysg ⟨[E1, E2], [], H⟩ ?_
 refine Ag ?_
 obtain ⟨v2, h3, hF⟩ := Ab hF
 let L4 : List EN := [E1] ++ L3 ++ [(13, vi v2)]
 obtain ⟨w7, hB8, hF⟩ := Ab hF
 refine Aj ⟨[(4, vb w7)], [], H⟩ ?_ ?_
 refine yr 2 ⟨[E1] ++ L3, [], H⟩ ?_
 refine Ai ⟨L4, [], H⟩ (Lx (⟨[E1] ++ L3, [], H⟩ : St) .i64 h3 (bX (P := X.P) (ty := 3) (x := (.const (.int .i64 (-1)))) (y := (.tmp 12)) (m := .top) (m' := .top) (k := .i64) (k' := .i64) (a := (-1)) (b := (IntKind.wrap .i64 ((if 40 < p1 then 40 else p1) - 1)))) (some 13) (by kernel_rfl) (by kernel_rfl)) ?_
 refine yr 2 ⟨L4 ++ [(14, vb (decide (p0 ≥ v2))), (15, vb (decide (p0 ≥ v2)))], [], H⟩ ?_
 rcases Ae hB8 with ⟨h4, hB8⟩ | ⟨h4, hB8⟩
 refine Bd (congrArg (fun q => (⟨L4 ++ [(14, vb q), (15, vb q)], [], H⟩ : St)) h4) ?_
 refine yr 2 ⟨L4 ++ L5, [], H⟩ ?_
 obtain ⟨v5, h6, hB8⟩ := Ab hB8
 refine Ai ⟨L4 ++ L5 ++ [(18, vi v5)], [], H⟩ (Lx (⟨L4 ++ L5, [], H⟩ : St) .i64 h6 (bX (P := X.P) (ty := 3) (x := (.const (.int .i64 (1)))) (y := (.tmp 17)) (m := .top) (m' := .top) (k := .i64) (k' := .i64) (a := 1) (b := (IntKind.wrap .i64 ((if 40 < p1 then 40 else p1) - 1)))) (some 18) (by kernel_rfl) (by kernel_rfl)) ?_
 refine yr 3 ⟨[E1, (4, vb (decide (p0 < v5)))] ++ L3 ++ [(13, vi v2)] ++ L5 ++ [(18, vi v5), (19, vb (decide (p0 < v5))), (20, vb (decide (p0 < v5)))], [], H⟩ ?_
 cases hB8
 exact ye
 refine Bd (congrArg (fun q => (⟨L4 ++ [(14, vb q), (15, vb q)], [], H⟩ : St)) h4) ?_
 refine yr 6 ⟨[E1, (4, vF)] ++ L3 ++ [(13, vi v2), (14, vF), (15, vF), (16, vN), (17, vN), (18, vN), (19, vN), (20, vF)], [], H⟩ ?_
 cases hB8
 exact ye
 refine Au ?_
 obtain e0 := Am hF
 subst e0
 exact yp (vb w7)
noncomputable def Nf  (p0 : Int) (p1 : Int) : Option (Bool) :=
  Af (if (decide (p1 ≥ 0)) = true then (if (decide (p0 ≥ 0)) = true then (Af (Qz .i64 1 (if 40 < p1 then 40 else p1)) fun v3 =>
  some (decide (p0 < v3))) else (some false)) else (some false)) fun w5 =>
  some w5
theorem Y1 (H : Ah) {p0 : Int} {p1 : Int} {ra : Bool} (hF : Nf p0 p1 = some ra) : evS X 138 [.one .top (.int .i64 p0), .one .top (.int .i64 p1)] H = some (.one .top (.bool ra), H) := by
 let L1 : List EN := [(0, vi p0), (1, vi p1)]
 let L2 : List EN := L1 ++ [(5, vi p1)]
 let L3 : List EN := [(6, vT), (7, vT), (8, vi p0)]
 let L4 : List EN := [(9, vT), (10, vT), (11, vT), (12, vi p0), (13, vi p1), (14, vi (if 40 < p1 then 40 else p1))]
 let L5 : List EN := [(10, vF), (11, vF), (12, vN), (13, vN), (14, vN), (15, vN), (16, vN), (17, vF)]
 refine yf Try.func138 true ⟨L1, [], H⟩ ?_
 unfold Nf at hF
 refine ysg ⟨L1, [], H⟩ ?_
 refine Ag ?_
 obtain ⟨w5, hB6, hF⟩ := Ab hF
 refine Aj ⟨[(4, vb w5)], [], H⟩ ?_ ?_
 refine yr 3 ⟨L2 ++ [(6, vb (decide (p1 ≥ 0))), (7, vb (decide (p1 ≥ 0)))], [], H⟩ ?_
 rcases Ae hB6 with ⟨h1, hB6⟩ | ⟨h1, hB6⟩
 refine Bd (congrArg (fun q => (⟨L2 ++ [(6, vb q), (7, vb q)], [], H⟩ : St)) h1) ?_
 refine yr 4 ⟨L2 ++ L3 ++ [(9, vb (decide (p0 ≥ 0))), (10, vb (decide (p0 ≥ 0))), (11, vb (decide (p0 ≥ 0)))], [], H⟩ ?_
 rcases Ae hB6 with ⟨h2, hB6⟩ | ⟨h2, hB6⟩
 refine Bd (congrArg (fun q => (⟨L2 ++ L3 ++ [(9, vb q), (10, vb q), (11, vb q)], [], H⟩ : St)) h2) ?_
 refine yr 3 ⟨L2 ++ L3 ++ L4, [], H⟩ ?_
 obtain ⟨v3, h4, hB6⟩ := Ab hB6
 refine Ai ⟨L2 ++ L3 ++ L4 ++ [(15, vi v3)], [], H⟩ (Lx (⟨L2 ++ L3 ++ L4, [], H⟩ : St) .i64 h4 (bX (P := X.P) (ty := 3) (x := (.const (.int .i64 (1)))) (y := (.tmp 14)) (m := .top) (m' := .top) (k := .i64) (k' := .i64) (a := 1) (b := (if 40 < p1 then 40 else p1))) (some 15) (by kernel_rfl) (by kernel_rfl)) ?_
 refine yr 3 ⟨L1 ++ [(4, vb (decide (p0 < v3))), (5, vi p1)] ++ L3 ++ L4 ++ [(15, vi v3), (16, vb (decide (p0 < v3))), (17, vb (decide (p0 < v3)))], [], H⟩ ?_
 cases hB6
 exact ye
 refine Bd (congrArg (fun q => (⟨L2 ++ L3 ++ [(9, vb q), (10, vb q), (11, vb q)], [], H⟩ : St)) h2) ?_
 refine yr 7 ⟨L1 ++ [(4, vF), (5, vi p1)] ++ L3 ++ [(9, vF)] ++ L5, [], H⟩ ?_
 cases hB6
 exact ye
 refine Bd (congrArg (fun q => (⟨L2 ++ [(6, vb q), (7, vb q)], [], H⟩ : St)) h1) ?_
 refine yr 11 ⟨L1 ++ [(4, vF), (5, vi p1), (6, vF), (7, vF), (8, vN), (9, vN)] ++ L5, [], H⟩ ?_
 cases hB6
 exact ye
 refine Au ?_
 obtain e0 := Am hF
 subst e0
 exact yp (vb w5)
noncomputable def Kj (p0 : T_instr_Instr) (p1 : Int) (j5 : Bool) : Option (Bool) :=
  if j5 = true then (Af (Nf p0.Imm_ 16) fun r7 =>
  some r7)
  else (if (p1 == 7) = true then (Af (Oc p0.Imm_ 24) fun r10 =>
  some r10)
  else (some (p0.Imm_ == 0)))
noncomputable def Kk (p0 : T_instr_Instr) (p1 : Int) (j13 : Bool) : Option (Bool) :=
  Kj p0 p1 j13
noncomputable def Kl (p0 : T_instr_Instr) (p1 : Int) (j1 : Bool) : Option (Bool) :=
  if j1 = true then (Af (Oc p0.Imm_ 16) fun r3 =>
  some r3)
  else (if (p1 == 2) = true then (Kj p0 p1 (p1 == 2))
  else (if (p1 == 4) = true then (Kk p0 p1 (p1 == 4))
  else (Kk p0 p1 (p1 == 8))))
noncomputable def P7  (p0 : T_instr_Instr) (p1 : Int) : Option (Bool) :=
  if (p1 == 1) = true then (Kl p0 p1 (p1 == 1))
  else (Kl p0 p1 (p1 == 3))
theorem cE (H : Ah) {p0 : T_instr_Instr} {p1 : Int} {ra : Bool} (hF : P7 p0 p1 = some ra) : evS X 133 [.agg (Ap p0), .one .top (.int .i64 p1)] H = some (.one .top (.bool ra), H) := by
 let E1 : EN := (2, vl 2 0)
 let B2 : EB := (2, (Ap p0))
 let E3 : EN := (9, vl 2 4)
 let E4 : EN := (10, vi p0.Imm_)
 let E5 : EN := (16, vl 2 4)
 let E6 : EN := (17, vi p0.Imm_)
 let E7 : EN := (21, vl 2 4)
 let E8 : EN := (22, vi p0.Imm_)
 let L9 : List EN := [E1, (5, vi p1)]
 let S10 : St := ⟨[E1], [B2], H⟩
 let S11 : St := ⟨[E1, E3, E4], [B2], H⟩
 let S12 : St := ⟨[E1, E5, E6], [B2], H⟩
 let S13 : St := ⟨[E1, E7, E8], [B2], H⟩
 refine yf Try.func133 true ⟨[(0, .agg (Ap p0)), (1, vi p1)], [], H⟩ ?_
 unfold P7 at hF
 refine ysg ⟨[(1, vi p1), E1], [B2], H⟩ ?_
 refine Ag ?_
 refine ysg ⟨L9, [B2], H⟩ ?_
 refine Bt ?_
 refine Ag ?_
 refine ysg ⟨L9 ++ [(6, vb (p1 == 1))], [B2], H⟩ ?_
 refine As (α := (Bool)) (fun x => (⟨L9 ++ [(6, vb x)], [B2], H⟩ : St)) (fun x => Kl p0 p1 x = some ra) ?_ ?_
 rintro j1 hF
 replace hF : Kl p0 p1 j1 = some ra := hF
 unfold Kl at hF
 rcases Ae hF with ⟨h2, hF⟩ | ⟨h2, hF⟩
 refine yT h2 S10 ?_
 refine Ag ?_
 obtain ⟨r3, c4, hF⟩ := Ab hF
 refine Aj ⟨[(4, vb r3)], [], H⟩ ?_ ?_
 refine yr 2 S11 ?_
 refine Ai ⟨[E1, E3, E4, (11, vb r3)], [B2], H⟩ (yc (some 11) true false S11 (Un H c4)) ?_
 refine yr 1 ⟨[E1, (4, vb r3), E3, E4, (11, vb r3)], [B2], H⟩ ?_
 exact ye
 refine Au ?_
 obtain e0 := Am hF
 subst e0
 exact yp (vb r3)
 refine yF h2 ⟨L9, [B2], H⟩ ?_
 refine Ag ?_
 refine ysg ⟨L9 ++ [(12, vb (p1 == 2))], [B2], H⟩ ?_
 refine As (α := (Bool)) (fun x => (⟨L9 ++ [(12, vb x)], [B2], H⟩ : St)) (fun x => Kj p0 p1 x = some ra) ?_ ?_
 rintro j5 hF
 replace hF : Kj p0 p1 j5 = some ra := hF
 unfold Kj at hF
 rcases Ae hF with ⟨h6, hF⟩ | ⟨h6, hF⟩
 refine yT h6 S10 ?_
 refine Ag ?_
 obtain ⟨r7, c8, hF⟩ := Ab hF
 refine Aj ⟨[(4, vb r7)], [], H⟩ ?_ ?_
 refine yr 2 S12 ?_
 refine Ai ⟨[E1, E5, E6, (18, vb r7)], [B2], H⟩ (yc (some 18) true false S12 (Y1 H c8)) ?_
 refine yr 1 ⟨[E1, (4, vb r7), E5, E6, (18, vb r7)], [B2], H⟩ ?_
 exact ye
 refine Au ?_
 obtain e0 := Am hF
 subst e0
 exact yp (vb r7)
 refine yF h6 ⟨L9, [B2], H⟩ ?_
 refine ysg ⟨[E1, (19, vb (p1 == 7))], [B2], H⟩ ?_
 rcases Ae hF with ⟨h9, hF⟩ | ⟨h9, hF⟩
 refine yT h9 S10 ?_
 refine Ag ?_
 obtain ⟨r10, c11, hF⟩ := Ab hF
 refine Aj ⟨[(4, vb r10)], [], H⟩ ?_ ?_
 refine yr 2 S13 ?_
 refine Ai ⟨[E1, E7, E8, (23, vb r10)], [B2], H⟩ (yc (some 23) true false S13 (Un H c11)) ?_
 refine yr 1 ⟨[E1, (4, vb r10), E7, E8, (23, vb r10)], [B2], H⟩ ?_
 exact ye
 refine Au ?_
 obtain e0 := Am hF
 subst e0
 exact yp (vb r10)
 refine yF h9 S10 ?_
 refine Ao ?_
 refine ysg ⟨[(4, vb (p0.Imm_ == 0))], [], H⟩ ?_
 refine Au ?_
 obtain e0 := Am hF
 subst e0
 exact yp (vb (p0.Imm_ == 0))
 rcases Ae hF with ⟨h12, hF⟩ | ⟨h12, hF⟩
 refine yT h12 ⟨L9 ++ [(12, vb (p1 == 2))], [B2], H⟩ ?_
 refine Ao ?_
 exact ⟨(p1 == 2), hF, (by kernel_rfl)⟩
 refine yF h12 ⟨L9, [B2], H⟩ ?_
 refine ysg ⟨L9 ++ [(12, vb (p1 == 4))], [B2], H⟩ ?_
 refine As (α := (Bool)) (fun x => (⟨L9 ++ [(12, vb x)], [B2], H⟩ : St)) (fun x => Kk p0 p1 x = some ra) ?_ ?_
 rintro j13 hF
 replace hF : Kk p0 p1 j13 = some ra := hF
 unfold Kk at hF
 exact ⟨j13, hF, (by kernel_rfl)⟩
 rcases Ae hF with ⟨h14, hF⟩ | ⟨h14, hF⟩
 refine yT h14 ⟨L9 ++ [(12, vb (p1 == 4))], [B2], H⟩ ?_
 refine Ao ?_
 exact ⟨(p1 == 4), hF, (by kernel_rfl)⟩
 refine yF h14 ⟨L9, [B2], H⟩ ?_
 refine yg ⟨L9 ++ [(12, vb (p1 == 8))], [B2], H⟩ ?_
 exact ⟨(p1 == 8), hF, (by kernel_rfl)⟩
 rcases Ae hF with ⟨h15, hF⟩ | ⟨h15, hF⟩
 refine yT h15 ⟨L9 ++ [(6, vb (p1 == 1))], [B2], H⟩ ?_
 refine Ao ?_
 exact ⟨(p1 == 1), hF, (by kernel_rfl)⟩
 refine yF h15 ⟨L9, [B2], H⟩ ?_
 refine yg ⟨L9 ++ [(6, vb (p1 == 3))], [B2], H⟩ ?_
 exact ⟨(p1 == 3), hF, (by kernel_rfl)⟩
noncomputable def G8 (j19 : Bool) : Option (Int) :=
  if (!j19) = true then (some 20)
  else (some 0)
noncomputable def G9 (j25 : Bool) : Option (Int) :=
  G8 j25
noncomputable def Ha (j28 : Bool) : Option (Int) :=
  G9 j28
noncomputable def Hb (p0 : T_instr_Instr) (r1 : Int) (j24 : Bool) : Option (Int) :=
  if j24 = true then (G9 ((p0.C_ == 0) && (p0.B_ == 0)))
  else (if (r1 == 5) = true then (Ha true)
  else (Ha (p0.C_ == 0)))
noncomputable def Hc (p0 : T_instr_Instr) (r1 : Int) (j31 : Bool) : Option (Int) :=
  Hb p0 r1 j31
noncomputable def Hd (p0 : T_instr_Instr) (r1 : Int) (j18 : Bool) : Option (Int) :=
  if j18 = true then (G8 ((p0.C_ == 0) && ((p0.A_ == 0) && (p0.B_ == 0))))
  else (if (r1 == 1) = true then (Hb p0 r1 (r1 == 1))
  else (if (r1 == 2) = true then (Hc p0 r1 (r1 == 2))
  else (Hc p0 r1 (r1 == 6))))
noncomputable def He (p0 : T_instr_Instr) (r1 : Int) (j34 : Bool) : Option (Int) :=
  Hd p0 r1 j34
noncomputable def Lk  (p0 : T_instr_Instr) : Option (Int) :=
  Af (D7 p0.Op_) fun r1 =>
  if (decide (r1 < 0)) = true then (some 21)
  else (Af (Mv p0.A_) fun r4 =>
  Af (if (!r4) = true then (some true) else (Af (Mv p0.B_) fun r7 =>
  if (!r7) = true then (some true) else (Af (Mv p0.C_) fun r10 =>
  if (!r10) = true then (some true) else (Af (P7 p0 r1) fun r13 =>
  some (!r13))))) fun w15 =>
  if w15 = true then (some 20)
  else (if (r1 == 0) = true then (Hd p0 r1 (r1 == 0))
  else (if (r1 == 7) = true then (He p0 r1 (r1 == 7))
  else (He p0 r1 (r1 == 8)))))
theorem Y2 (H : Ah) {p0 : T_instr_Instr} {ra : Int} (hF : Lk p0 = some ra) : evS X 113 [.agg (Ap p0)] H = some (.one .top (.int .i64 ra), H) := by
 let E1 : EN := (1, vl 1 0)
 let B2 : EB := (1, (Ap p0))
 let E3 : EN := (5, vl 1 0)
 let E4 : EN := (6, vi p0.Op_)
 let E5 : EN := (11, vi p0.A_)
 let E6 : EN := (4, vb (p0.C_ == 0))
 let L8 : List EN := [E1, E6]
 let L15 : List EN := [(40, vT), (41, vT), (42, vl 1 1), (43, vi p0.A_)]
 let L17 : List EN := [(25, vT), (26, vT), (27, vN), (28, vN), (29, vN), (30, vN), (31, vT)]
 let L18 : List EN := [(19, vT), (20, vT), (21, vN), (22, vN), (23, vN), (24, vN)] ++ L17
 let L19 : List EN := [(45, vF), (46, vF), (47, vN), (48, vN), (49, vN), (50, vF)]
 let S20 : St := ⟨[E1, E3, E4], [B2], H⟩
 let S21 : St := ⟨[], [], H⟩
 refine yf Try.func113 true ⟨[(0, .agg (Ap p0))], [], H⟩ ?_
 unfold Lk at hF
 refine ysg ⟨[E1], [B2], H⟩ ?_
 refine Ag ?_
 obtain ⟨r1, c2, hF⟩ := Ab hF
 let L7 : List EN := [E1, (3, vi r1)]
 let L10 : List EN := L8 ++ [(35, vi r1)]
 refine Aj ⟨L7, [B2], H⟩ ?_ ?_
 refine yr 2 S20 ?_
 refine Ai ⟨[E1, E3, E4, (7, vi r1)], [B2], H⟩ (yc (some 7) true false S20 (Ma H c2)) ?_
 refine yr 1 ⟨L7 ++ [E3, E4, (7, vi r1)], [B2], H⟩ ?_
 exact ye
 refine Ag ?_
 refine ysg ⟨L7 ++ [(9, vb (decide (r1 < 0)))], [B2], H⟩ ?_
 rcases Ae hF with ⟨h3, hF⟩ | ⟨h3, hF⟩
 refine yT h3 S21 ?_
 refine ysg ⟨[(2, vi 21)], [], H⟩ ?_
 refine Au ?_
 obtain e0 := Am hF
 subst e0
 exact yp (vi 21)
 refine yF h3 ⟨L7, [B2], H⟩ ?_
 refine Ao ?_
 refine Ag ?_
 refine Ag ?_
 obtain ⟨r4, c5, hF⟩ := Ab hF
 let L9 : List EN := L7 ++ [(10, vl 1 1), E5, (12, vb r4)]
 let L11 : List EN := L9 ++ [(13, vF), (14, vF), (15, vl 1 2), (16, vi p0.B_)]
 obtain ⟨w15, hB16, hF⟩ := Ab hF
 refine Aj ⟨L7 ++ [(31, vb w15)], [B2], H⟩ ?_ ?_
 refine yr 2 ⟨L7 ++ [(10, vl 1 1), E5], [B2], H⟩ ?_
 refine Ai ⟨L9, [B2], H⟩ (yc (some 12) true false (⟨L7 ++ [(10, vl 1 1), E5], [B2], H⟩ : St) (Qr H c5)) ?_
 refine yr 2 ⟨L9 ++ [(13, vb (!r4)), (14, vb (!r4))], [B2], H⟩ ?_
 rcases Ae hB16 with ⟨h6, hB16⟩ | ⟨h6, hB16⟩
 refine Bd (congrArg (fun q => (⟨L9 ++ [(13, vb q), (14, vb q)], [B2], H⟩ : St)) h6) ?_
 refine yr 17 ⟨L9 ++ [(13, vT), (14, vT), (15, vN), (16, vN), (17, vN), (18, vN)] ++ L18, [B2], H⟩ ?_
 cases hB16
 exact ye
 refine Bd (congrArg (fun q => (⟨L9 ++ [(13, vb q), (14, vb q)], [B2], H⟩ : St)) h6) ?_
 refine yr 2 ⟨L11, [B2], H⟩ ?_
 obtain ⟨r7, c8, hB16⟩ := Ab hB16
 let L12 : List EN := L11 ++ [(17, vb r7)]
 let L13 : List EN := L12 ++ [(18, vF), (19, vF), (20, vF), (21, vl 1 3), (22, vi p0.C_)]
 refine Ai ⟨L12, [B2], H⟩ (yc (some 17) true false (⟨L11, [B2], H⟩ : St) (Qr H c8)) ?_
 refine yr 3 ⟨L12 ++ [(18, vb (!r7)), (19, vb (!r7)), (20, vb (!r7))], [B2], H⟩ ?_
 rcases Ae hB16 with ⟨h9, hB16⟩ | ⟨h9, hB16⟩
 refine Bd (congrArg (fun q => (⟨L12 ++ [(18, vb q), (19, vb q), (20, vb q)], [B2], H⟩ : St)) h9) ?_
 refine yr 11 ⟨L12 ++ [(18, vT)] ++ L18, [B2], H⟩ ?_
 cases hB16
 exact ye
 refine Bd (congrArg (fun q => (⟨L12 ++ [(18, vb q), (19, vb q), (20, vb q)], [B2], H⟩ : St)) h9) ?_
 refine yr 2 ⟨L13, [B2], H⟩ ?_
 obtain ⟨r10, c11, hB16⟩ := Ab hB16
 let L14 : List EN := L13 ++ [(23, vb r10)]
 let L16 : List EN := L14 ++ [(24, vF), (25, vF), (26, vF), (27, .agg (Ap p0)), (28, vi r1)]
 refine Ai ⟨L14, [B2], H⟩ (yc (some 23) true false (⟨L13, [B2], H⟩ : St) (Qr H c11)) ?_
 refine yr 3 ⟨L14 ++ [(24, vb (!r10)), (25, vb (!r10)), (26, vb (!r10))], [B2], H⟩ ?_
 rcases Ae hB16 with ⟨h12, hB16⟩ | ⟨h12, hB16⟩
 refine Bd (congrArg (fun q => (⟨L14 ++ [(24, vb q), (25, vb q), (26, vb q)], [B2], H⟩ : St)) h12) ?_
 refine yr 5 ⟨L14 ++ [(24, vT)] ++ L17, [B2], H⟩ ?_
 cases hB16
 exact ye
 refine Bd (congrArg (fun q => (⟨L14 ++ [(24, vb q), (25, vb q), (26, vb q)], [B2], H⟩ : St)) h12) ?_
 refine yr 2 ⟨L16, [B2], H⟩ ?_
 obtain ⟨r13, c14, hB16⟩ := Ab hB16
 refine Ai ⟨L16 ++ [(29, vb r13)], [B2], H⟩ (yc (some 29) true false (⟨L16, [B2], H⟩ : St) (cE H c14)) ?_
 refine yr 2 ⟨L16 ++ [(29, vb r13), (30, vb (!r13)), (31, vb (!r13))], [B2], H⟩ ?_
 cases hB16
 exact ye
 rcases Ae hF with ⟨h17, hF⟩ | ⟨h17, hF⟩
 refine yT h17 S21 ?_
 refine ysg ⟨[(2, vi 20)], [], H⟩ ?_
 refine Au ?_
 obtain e0 := Am hF
 subst e0
 exact yp (vi 20)
 refine yF h17 ⟨L7, [B2], H⟩ ?_
 refine Ao ?_
 refine ysg ⟨L7 ++ [E6], [B2], H⟩ ?_
 refine Ag ?_
 refine ysg ⟨L10, [B2], H⟩ ?_
 refine Bt ?_
 refine Ag ?_
 refine ysg ⟨L10 ++ [(36, vb (r1 == 0))], [B2], H⟩ ?_
 refine As (α := (Bool)) (fun x => (⟨L10 ++ [(36, vb x)], [B2], H⟩ : St)) (fun x => Hd p0 r1 x = some ra) ?_ ?_
 rintro j18 hF
 replace hF : Hd p0 r1 j18 = some ra := hF
 unfold Hd at hF
 refine As (α := (Bool)) (fun x => (⟨[(4, vb x)], [], H⟩ : St)) (fun x => G8 x = some ra) ?_ ?_
 rintro j19 hF
 replace hF : G8 j19 = some ra := hF
 unfold G8 at hF
 refine Ag ?_
 refine ysg ⟨[(64, vb (!j19))], [], H⟩ ?_
 rcases Ae hF with ⟨h20, hF⟩ | ⟨h20, hF⟩
 refine yT h20 S21 ?_
 refine ysg ⟨[(2, vi 20)], [], H⟩ ?_
 refine Au ?_
 obtain e0 := Am hF
 subst e0
 exact yp (vi 20)
 refine yF h20 S21 ?_
 refine Ao ?_
 refine ysg ⟨[(2, vi 0)], [], H⟩ ?_
 refine Au ?_
 obtain e0 := Am hF
 subst e0
 exact yp (vi 0)
 rcases Ae hF with ⟨h21, hF⟩ | ⟨h21, hF⟩
 refine yT h21 ⟨L8, [B2], H⟩ ?_
 refine Aj ⟨[(4, vb ((p0.C_ == 0) && ((p0.A_ == 0) && (p0.B_ == 0))))], [], H⟩ ?_ ?_
 refine yr 2 ⟨L8 ++ [(40, vb (p0.C_ == 0)), (41, vb (p0.C_ == 0))], [B2], H⟩ ?_
 rcases Ax (p0.C_ == 0) with h22 | h22
 refine Bd (congrArg (fun q => (⟨[E1, (4, vb q), (40, vb q), (41, vb q)], [B2], H⟩ : St)) h22) ?_
 refine yr 5 ⟨[E1, (4, vT)] ++ L15 ++ [(44, vb (p0.A_ == 0)), (45, vb (p0.A_ == 0)), (46, vb (p0.A_ == 0))], [B2], H⟩ ?_
 rcases Ax (p0.A_ == 0) with h23 | h23
 refine Bd (congrArg (fun q => (⟨[E1, (4, vT)] ++ L15 ++ [(44, vb q), (45, vb q), (46, vb q)], [B2], H⟩ : St)) h23) ?_
 refine yr 5 ⟨[E1, (4, vb (p0.B_ == 0))] ++ L15 ++ [(44, vT), (45, vT), (46, vT), (47, vl 1 2), (48, vi p0.B_), (49, vb (p0.B_ == 0)), (50, vb (p0.B_ == 0))], [B2], H⟩ ?_
 refine Bw (congrArg (fun q0 => (⟨[(4, vb q0)], [], H⟩ : St)) (show (p0.B_ == 0) = ((p0.C_ == 0) && ((p0.A_ == 0) && (p0.B_ == 0))) by simp [h22, h23])) ?_
 exact ye
 refine Bd (congrArg (fun q => (⟨[E1, (4, vT)] ++ L15 ++ [(44, vb q), (45, vb q), (46, vb q)], [B2], H⟩ : St)) h23) ?_
 refine yr 5 ⟨[E1, (4, vF)] ++ L15 ++ [(44, vF)] ++ L19, [B2], H⟩ ?_
 refine Bw (congrArg (fun q0 => (⟨[(4, vb q0)], [], H⟩ : St)) (show false = ((p0.C_ == 0) && ((p0.A_ == 0) && (p0.B_ == 0))) by simp [h22, h23])) ?_
 exact ye
 refine Bd (congrArg (fun q => (⟨[E1, (4, vb q), (40, vb q), (41, vb q)], [B2], H⟩ : St)) h22) ?_
 refine yr 10 ⟨[E1, (4, vF), (40, vF), (41, vF), (42, vN), (43, vN), (44, vN)] ++ L19, [B2], H⟩ ?_
 refine Bw (congrArg (fun q0 => (⟨[(4, vb q0)], [], H⟩ : St)) (show false = ((p0.C_ == 0) && ((p0.A_ == 0) && (p0.B_ == 0))) by simp [h22])) ?_
 exact ye
 exact ⟨((p0.C_ == 0) && ((p0.A_ == 0) && (p0.B_ == 0))), hF, (by kernel_rfl)⟩
 refine yF h21 ⟨L10, [B2], H⟩ ?_
 refine Ag ?_
 refine ysg ⟨L10 ++ [(51, vb (r1 == 1))], [B2], H⟩ ?_
 refine As (α := (Bool)) (fun x => (⟨L10 ++ [(51, vb x)], [B2], H⟩ : St)) (fun x => Hb p0 r1 x = some ra) ?_ ?_
 rintro j24 hF
 replace hF : Hb p0 r1 j24 = some ra := hF
 unfold Hb at hF
 refine As (α := (Bool)) (fun x => (⟨[(4, vb x)], [], H⟩ : St)) (fun x => G9 x = some ra) ?_ ?_
 rintro j25 hF
 replace hF : G9 j25 = some ra := hF
 unfold G9 at hF
 exact ⟨j25, hF, (by kernel_rfl)⟩
 rcases Ae hF with ⟨h26, hF⟩ | ⟨h26, hF⟩
 refine yT h26 ⟨L8, [B2], H⟩ ?_
 refine Aj ⟨[(4, vb ((p0.C_ == 0) && (p0.B_ == 0)))], [], H⟩ ?_ ?_
 refine yr 2 ⟨L8 ++ [(55, vb (p0.C_ == 0)), (56, vb (p0.C_ == 0))], [B2], H⟩ ?_
 rcases Ax (p0.C_ == 0) with h27 | h27
 refine Bd (congrArg (fun q => (⟨[E1, (4, vb q), (55, vb q), (56, vb q)], [B2], H⟩ : St)) h27) ?_
 refine yr 5 ⟨[E1, (4, vb (p0.B_ == 0)), (55, vT), (56, vT), (57, vl 1 2), (58, vi p0.B_), (59, vb (p0.B_ == 0)), (60, vb (p0.B_ == 0))], [B2], H⟩ ?_
 refine Bw (congrArg (fun q0 => (⟨[(4, vb q0)], [], H⟩ : St)) (show (p0.B_ == 0) = ((p0.C_ == 0) && (p0.B_ == 0)) by simp [h27])) ?_
 exact ye
 refine Bd (congrArg (fun q => (⟨[E1, (4, vb q), (55, vb q), (56, vb q)], [B2], H⟩ : St)) h27) ?_
 refine yr 5 ⟨[E1, (4, vF), (55, vF), (56, vF), (57, vN), (58, vN), (59, vN), (60, vF)], [B2], H⟩ ?_
 refine Bw (congrArg (fun q0 => (⟨[(4, vb q0)], [], H⟩ : St)) (show false = ((p0.C_ == 0) && (p0.B_ == 0)) by simp [h27])) ?_
 exact ye
 exact ⟨((p0.C_ == 0) && (p0.B_ == 0)), hF, (by kernel_rfl)⟩
 refine yF h26 ⟨[E6, (35, vi r1)], [], H⟩ ?_
 refine ysg ⟨[E6, (61, vb (r1 == 5))], [], H⟩ ?_
 refine As (α := (Bool)) (fun x => (⟨[(4, vb x)], [], H⟩ : St)) (fun x => Ha x = some ra) ?_ ?_
 rintro j28 hF
 replace hF : Ha j28 = some ra := hF
 unfold Ha at hF
 exact ⟨j28, hF, (by kernel_rfl)⟩
 rcases Ae hF with ⟨h29, hF⟩ | ⟨h29, hF⟩
 refine yT h29 S21 ?_
 refine yg ⟨[(4, vT)], [], H⟩ ?_
 exact ⟨true, hF, (by kernel_rfl)⟩
 refine yF h29 ⟨[E6], [], H⟩ ?_
 refine Ao ?_
 exact ⟨(p0.C_ == 0), hF, (by kernel_rfl)⟩
 rcases Ae hF with ⟨h30, hF⟩ | ⟨h30, hF⟩
 refine yT h30 ⟨L10 ++ [(51, vb (r1 == 1))], [B2], H⟩ ?_
 refine Ao ?_
 exact ⟨(r1 == 1), hF, (by kernel_rfl)⟩
 refine yF h30 ⟨L10, [B2], H⟩ ?_
 refine ysg ⟨L10 ++ [(51, vb (r1 == 2))], [B2], H⟩ ?_
 refine As (α := (Bool)) (fun x => (⟨L10 ++ [(51, vb x)], [B2], H⟩ : St)) (fun x => Hc p0 r1 x = some ra) ?_ ?_
 rintro j31 hF
 replace hF : Hc p0 r1 j31 = some ra := hF
 unfold Hc at hF
 exact ⟨j31, hF, (by kernel_rfl)⟩
 rcases Ae hF with ⟨h32, hF⟩ | ⟨h32, hF⟩
 refine yT h32 ⟨L10 ++ [(51, vb (r1 == 2))], [B2], H⟩ ?_
 refine Ao ?_
 exact ⟨(r1 == 2), hF, (by kernel_rfl)⟩
 refine yF h32 ⟨L10, [B2], H⟩ ?_
 refine yg ⟨L10 ++ [(51, vb (r1 == 6))], [B2], H⟩ ?_
 exact ⟨(r1 == 6), hF, (by kernel_rfl)⟩
 rcases Ae hF with ⟨h33, hF⟩ | ⟨h33, hF⟩
 refine yT h33 ⟨L10 ++ [(36, vb (r1 == 0))], [B2], H⟩ ?_
 refine Ao ?_
 exact ⟨(r1 == 0), hF, (by kernel_rfl)⟩
 refine yF h33 ⟨L10, [B2], H⟩ ?_
 refine ysg ⟨L10 ++ [(36, vb (r1 == 7))], [B2], H⟩ ?_
 refine As (α := (Bool)) (fun x => (⟨L10 ++ [(36, vb x)], [B2], H⟩ : St)) (fun x => He p0 r1 x = some ra) ?_ ?_
 rintro j34 hF
 replace hF : He p0 r1 j34 = some ra := hF
 unfold He at hF
 exact ⟨j34, hF, (by kernel_rfl)⟩
 rcases Ae hF with ⟨h35, hF⟩ | ⟨h35, hF⟩
 refine yT h35 ⟨L10 ++ [(36, vb (r1 == 7))], [B2], H⟩ ?_
 refine Ao ?_
 exact ⟨(r1 == 7), hF, (by kernel_rfl)⟩
 refine yF h35 ⟨L10, [B2], H⟩ ?_
 refine yg ⟨L10 ++ [(36, vb (r1 == 8))], [B2], H⟩ ?_
 exact ⟨(r1 == 8), hF, (by kernel_rfl)⟩
noncomputable def Do  (p0 : T_instr_Instr) : Option (Int × Int) :=
  Af (Lk p0) fun r1 =>
  if (r1 != 0) = true then (some (0, r1))
  else (Af (D7 p0.Op_) fun r4 =>
  if (r4 == 7) = true then (some ((A9 .or .u32 (IntKind.wrap .u32 ((IntKind.wrap .u32 p0.Op_) * 2 ^ 24)) (A9 .and .u32 (IntKind.wrap .u32 p0.Imm_) 16777215)), 0))
  else (some ((A9 .or .u32 (A9 .or .u32 (A9 .or .u32 (A9 .or .u32 (IntKind.wrap .u32 ((IntKind.wrap .u32 p0.Op_) * 2 ^ 24)) (IntKind.wrap .u32 ((IntKind.wrap .u32 p0.A_) * 2 ^ 20))) (IntKind.wrap .u32 ((IntKind.wrap .u32 p0.B_) * 2 ^ 16))) (A9 .and .u32 (IntKind.wrap .u32 p0.Imm_) 65535)) (IntKind.wrap .u32 p0.C_)), 0)))
theorem Nz (H : Ah) {p0 : T_instr_Instr} {ra : Int} {rb : Int} (hF : Do p0 = some (ra, rb)) : evS X 88 [.agg (Ap p0)] H = some (.tup [.one .top (.int .u32 ra), .one .top (.int .i64 rb)], H) := by
 let E1 : EN := (1, vl 1 0)
 let B2 : EB := (1, (Ap p0))
 let E3 : EN := (6, .agg (Ap p0))
 let L4 : List EN := [E1, (5, vu (IntKind.wrap .u32 ((IntKind.wrap .u32 p0.Op_) * 2 ^ 24)))]
 let L5 : List EN := L4 ++ [(15, vl 1 0), (16, vi p0.Op_)]
 refine yf Try.func88 true ⟨[(0, .agg (Ap p0))], [], H⟩ ?_
 unfold Do at hF
 refine ysg ⟨[E1], [B2], H⟩ ?_
 refine Ag ?_
 refine Ag ?_
 obtain ⟨r1, c2, hF⟩ := Ab hF
 refine Aj ⟨[E1, (4, vi r1)], [B2], H⟩ ?_ ?_
 refine yr 1 ⟨[E1, E3], [B2], H⟩ ?_
 refine Ai ⟨[E1, E3, (7, vi r1)], [B2], H⟩ (yc (some 7) true false (⟨[E1, E3], [B2], H⟩ : St) (Y2 H c2)) ?_
 refine yr 1 ⟨[E1, (4, vi r1), E3, (7, vi r1)], [B2], H⟩ ?_
 exact ye
 refine ysg ⟨[E1, (4, vi r1), (9, vb (r1 != 0))], [B2], H⟩ ?_
 rcases Ae hF with ⟨h3, hF⟩ | ⟨h3, hF⟩
 refine yT h3 ⟨[(4, vi r1)], [], H⟩ ?_
 refine ysg ⟨[(2, vu 0), (3, vi r1)], [], H⟩ ?_
 refine Au ?_
 obtain ⟨e0, e1⟩ := Ar hF
 subst e0
 subst e1
 exact yp (.tup [vu 0, vi r1])
 refine yF h3 ⟨[E1], [B2], H⟩ ?_
 refine Ao ?_
 refine ysg ⟨L4, [B2], H⟩ ?_
 refine Ag ?_
 refine Ag ?_
 obtain ⟨r4, c5, hF⟩ := Ab hF
 refine Aj ⟨L4 ++ [(18, vb (r4 == 7))], [B2], H⟩ ?_ ?_
 refine yr 2 ⟨L5, [B2], H⟩ ?_
 refine Ai ⟨L5 ++ [(17, vi r4)], [B2], H⟩ (yc (some 17) true false (⟨L5, [B2], H⟩ : St) (Ma H c5)) ?_
 refine yr 1 ⟨L5 ++ [(17, vi r4), (18, vb (r4 == 7))], [B2], H⟩ ?_
 exact ye
 rcases Ae hF with ⟨h6, hF⟩ | ⟨h6, hF⟩
 refine yT h6 ⟨L4, [B2], H⟩ ?_
 refine ysg ⟨[(2, vu (A9 .or .u32 (IntKind.wrap .u32 ((IntKind.wrap .u32 p0.Op_) * 2 ^ 24)) (A9 .and .u32 (IntKind.wrap .u32 p0.Imm_) 16777215))), (3, vi 0)], [], H⟩ ?_
 refine Au ?_
 obtain ⟨e0, e1⟩ := Ar hF
 subst e0
 subst e1
 exact yp (.tup [vu (A9 .or .u32 (IntKind.wrap .u32 ((IntKind.wrap .u32 p0.Op_) * 2 ^ 24)) (A9 .and .u32 (IntKind.wrap .u32 p0.Imm_) 16777215)), vi 0])
 refine yF h6 ⟨L4, [B2], H⟩ ?_
 refine Ao ?_
 refine ysg ⟨[(2, vu (A9 .or .u32 (A9 .or .u32 (A9 .or .u32 (A9 .or .u32 (IntKind.wrap .u32 ((IntKind.wrap .u32 p0.Op_) * 2 ^ 24)) (IntKind.wrap .u32 ((IntKind.wrap .u32 p0.A_) * 2 ^ 20))) (IntKind.wrap .u32 ((IntKind.wrap .u32 p0.B_) * 2 ^ 16))) (A9 .and .u32 (IntKind.wrap .u32 p0.Imm_) 65535)) (IntKind.wrap .u32 p0.C_))), (3, vi 0)], [], H⟩ ?_
 refine Au ?_
 obtain ⟨e0, e1⟩ := Ar hF
 subst e0
 subst e1
 exact yp (.tup [vu (A9 .or .u32 (A9 .or .u32 (A9 .or .u32 (A9 .or .u32 (IntKind.wrap .u32 ((IntKind.wrap .u32 p0.Op_) * 2 ^ 24)) (IntKind.wrap .u32 ((IntKind.wrap .u32 p0.A_) * 2 ^ 20))) (IntKind.wrap .u32 ((IntKind.wrap .u32 p0.B_) * 2 ^ 16))) (A9 .and .u32 (IntKind.wrap .u32 p0.Imm_) 65535)) (IntKind.wrap .u32 p0.C_)), vi 0])
noncomputable def Cv (H : Ah) (p0 : Ptr) (p1 : Int) (p2 : (List Int)) : Option (Ah × Int) :=
  if ((Int.tmod p1 4) != 0) = true then (some (H, 30))
  else ((p0).bnd fun i2 o3 =>
  Af (Cu H i2 o3) fun x5 =>
  if ((decide (p1 > x5.layout_.Stack_)) || (decide ((IntKind.wrap .u64 (p2.length : Int)) > (IntKind.wrap .u64 (Int.tdiv (IntKind.wrap .u64 (IntKind.wrap .u32 (x5.layout_.Stack_ - p1))) 4))))) = true then (some (H, 31))
  else (Af (cut x5.words_ (IntKind.wrap .u32 (Int.tdiv p1 4)) x5.words_.length) fun v10 =>
  bnd (cpy x5.words_ (Int.toNat (IntKind.wrap .u32 (Int.tdiv p1 4))) p2) fun v11 =>
  bnd (Dm H i2 o3 (T_memory_Mem.mk x5.layout_ v11)) fun H13 =>
  some (H13, 0)))
theorem Ov (H : Ah) {p0 : Ptr} {p1 : Int} {p2 : (List Int)} {ra : Int} {Hr : Ah} (hF : Cv H p0 p1 p2 = some (Hr, ra)) : evS X 56 [.one .top (Ptr.av p0), .one .top (.int .u32 p1), .one (.own 1) (.sl 1 (List.map (eI .u32) p2))] H = some (.one .top (.int .i64 ra), Hr) := by
 let E2 : EN := (10, vu p1)
 let E3 : EN := (2, .one (.own 1) (.sl 1 (List.map (eI .u32) p2)))
 let E4 : EN := (19, vi (p2.length : Int))
 let L15 : Ptr → List EN := fun z0 => [(0, vp z0), (1, vu p1), E3]
 refine yf Try.func56 false ⟨(L15 p0), [], H⟩ ?_
 unfold Cv at hF
 refine ysg ⟨(L15 p0), [], H⟩ ?_ (h := (by generalize p0 = qp0; cases qp0 <;> kernel_rfl))
 refine Ag ?_
 refine ysg ⟨(L15 p0) ++ [(9, vb ((Int.tmod p1 4) != 0))], [], H⟩ ?_ (h := (by generalize p0 = qp0; cases qp0 <;> kernel_rfl))
 rcases Ae hF with ⟨h1, hF⟩ | ⟨h1, hF⟩
 refine yT h1 ⟨[], [], H⟩ ?_
 refine ysg ⟨[(6, vi 30)], [], H⟩ ?_
 refine Au ?_
 obtain ⟨e0, e1⟩ := Ar hF
 subst e0
 subst e1
 exact yi (vi 30)
 refine yF h1 ⟨(L15 p0), [], H⟩ ?_
 refine Ao ?_
 refine Ag ?_
 refine Ag ?_
 obtain ⟨i2, o3, h4, hF⟩ := Bu hF
 let L9 : List EN := [(0, vo i2 o3), (1, vu p1), E3]
 let L10 : List EN := L9 ++ [E2, (11, vo i2 o3), (12, vo i2 o3), (13, vo i2 o3), (14, vo i2 (o3 + 4))]
 let L12 : List EN := L9 ++ [(32, vo i2 o3), (33, vo i2 o3), (34, vo i2 (o3 + 5))]
 obtain ⟨x5, V6, hF⟩ := Ab hF
 replace V6 := Bb V6
 let E5 : EN := (25, vu x5.layout_.Stack_)
 let E6 : EN := (35, .one .top (.at_ (.obj i2 (o3 + 5)) 0 ((List.map (eI .u32) x5.words_).length)))
 let E7 : EN := (38, .one .top (.at_ (.obj i2 (o3 + 5)) (Int.toNat (IntKind.wrap .u32 (Int.tdiv p1 4))) ((List.map (eI .u32) x5.words_).length - Int.toNat (IntKind.wrap .u32 (Int.tdiv p1 4)))))
 let E8 : EN := (40, vi (((min p2.length (x5.words_.length - (Int.toNat (IntKind.wrap .u32 (Int.tdiv p1 4)))) : Nat)) : Int))
 let L11 : List EN := L10 ++ [(15, vu x5.layout_.Stack_)]
 let L13 : List EN := L12 ++ [E6, (36, vu p1), (37, vu (IntKind.wrap .u32 (Int.tdiv p1 4)))]
 let L14 : List EN := L11 ++ [(16, vF), (17, vF), (18, .one .bl (.sl 1 (List.map (eI .u32) p2)))]
 let L16 : List EN := L13 ++ [E7, (39, .one .bl (.sl 1 (List.map (eI .u32) p2)))]
 let L17 : List EN := L14 ++ [E4, (20, .one .top (.int .u64 (IntKind.wrap .u64 (p2.length : Int)))), (21, vo i2 o3), (22, vo i2 o3), (23, vo i2 o3), (24, vo i2 (o3 + 4))]
 refine Aj ⟨L9 ++ [(31, vb ((decide (p1 > x5.layout_.Stack_)) || (decide ((IntKind.wrap .u64 (p2.length : Int)) > (IntKind.wrap .u64 (Int.tdiv (IntKind.wrap .u64 (IntKind.wrap .u32 (x5.layout_.Stack_ - p1))) 4))))))], [], H⟩ ?_ ?_
 refine yr 2 ⟨(L15 p0) ++ [E2, (11, vp p0)], [], H⟩ ?_ (h := (by generalize p0 = qp0; cases qp0 <;> kernel_rfl))
 refine Bd (congrArg (fun q => (⟨[(0, vp q), (1, vu p1), E3, E2, (11, vp q)], [], H⟩ : St)) h4) ?_
 refine yr 1 ⟨L9 ++ [E2, (11, vo i2 o3), (12, vo i2 o3)], [], H⟩ ?_
 refine yr 2 ⟨L10, [], H⟩ ?_
 refine Ai ⟨L11, [], H⟩ (yd (X := X) (⟨L10, [], H⟩ : St) 35 V6 4 1 false (vu x5.layout_.Stack_) (some 15)) ?_
 refine yr 2 ⟨L11 ++ [(16, vb (decide (p1 > x5.layout_.Stack_))), (17, vb (decide (p1 > x5.layout_.Stack_)))], [], H⟩ ?_
 rcases Ax (decide (p1 > x5.layout_.Stack_)) with h7 | h7
 refine Bd (congrArg (fun q => (⟨L11 ++ [(16, vb q), (17, vb q)], [], H⟩ : St)) h7) ?_
 refine yr 14 ⟨L11 ++ [(16, vT), (17, vT), (18, vN), (19, vN), (20, vN), (21, vN), (22, vN), (23, vN), (24, vN), (25, vN), (26, vN), (27, vN), (28, vN), (29, vN), (30, vN), (31, vT)], [], H⟩ ?_
 refine Bw (congrArg (fun q0 => (⟨L9 ++ [(31, vb q0)], [], H⟩ : St)) (show true = ((decide (p1 > x5.layout_.Stack_)) || (decide ((IntKind.wrap .u64 (p2.length : Int)) > (IntKind.wrap .u64 (Int.tdiv (IntKind.wrap .u64 (IntKind.wrap .u32 (x5.layout_.Stack_ - p1))) 4))))) by simp [h7])) ?_
 exact ye
 refine Bd (congrArg (fun q => (⟨L11 ++ [(16, vb q), (17, vb q)], [], H⟩ : St)) h7) ?_
 refine yr 1 ⟨L14, [], H⟩ ?_
 refine Ai ⟨L14 ++ [E4], [], H⟩ (yl (⟨L14, [], H⟩ : St) p2 (eI .u32) (some 19)) ?_
 refine yr 5 ⟨L17, [], H⟩ ?_
 refine Ai ⟨L17 ++ [E5], [], H⟩ (yd (X := X) (⟨L17, [], H⟩ : St) 35 V6 4 1 false (vu x5.layout_.Stack_) (some 25)) ?_
 refine yr 6 ⟨L17 ++ [E5, (26, vu p1), (27, vu (IntKind.wrap .u32 (x5.layout_.Stack_ - p1))), (28, .one .top (.int .u64 (IntKind.wrap .u64 (IntKind.wrap .u32 (x5.layout_.Stack_ - p1))))), (29, .one .top (.int .u64 (IntKind.wrap .u64 (Int.tdiv (IntKind.wrap .u64 (IntKind.wrap .u32 (x5.layout_.Stack_ - p1))) 4)))), (30, vb (decide ((IntKind.wrap .u64 (p2.length : Int)) > (IntKind.wrap .u64 (Int.tdiv (IntKind.wrap .u64 (IntKind.wrap .u32 (x5.layout_.Stack_ - p1))) 4))))), (31, vb (decide ((IntKind.wrap .u64 (p2.length : Int)) > (IntKind.wrap .u64 (Int.tdiv (IntKind.wrap .u64 (IntKind.wrap .u32 (x5.layout_.Stack_ - p1))) 4)))))], [], H⟩ ?_
 refine Bw (congrArg (fun q0 => (⟨L9 ++ [(31, vb q0)], [], H⟩ : St)) (show (decide ((IntKind.wrap .u64 (p2.length : Int)) > (IntKind.wrap .u64 (Int.tdiv (IntKind.wrap .u64 (IntKind.wrap .u32 (x5.layout_.Stack_ - p1))) 4)))) = ((decide (p1 > x5.layout_.Stack_)) || (decide ((IntKind.wrap .u64 (p2.length : Int)) > (IntKind.wrap .u64 (Int.tdiv (IntKind.wrap .u64 (IntKind.wrap .u32 (x5.layout_.Stack_ - p1))) 4))))) by simp [h7])) ?_
 exact ye
 rcases Ae hF with ⟨h8, hF⟩ | ⟨h8, hF⟩
 refine yT h8 ⟨[], [], H⟩ ?_
 refine ysg ⟨[(6, vi 31)], [], H⟩ ?_
 refine Au ?_
 obtain ⟨e0, e1⟩ := Ar hF
 subst e0
 subst e1
 exact yi (vi 31)
 refine yF h8 ⟨L9, [], H⟩ ?_
 refine Ao ?_
 refine Ag ?_
 obtain ⟨v10, h9, hF⟩ := Ab hF
 obtain ⟨v11, h12, hF⟩ := Cl hF
 let W1 : Ah := Dt H i2 o3 [(.top, .int .u32 x5.layout_.Code_), (.top, .int .u32 x5.layout_.Tables_), (.top, .int .u32 x5.layout_.Data_), (.top, .int .u32 x5.layout_.Heap_), (.top, .int .u32 x5.layout_.Stack_), ((.own 1), .sl 1 (List.map (eI .u32) v11))]
 obtain ⟨H13, h14, hF⟩ := Cl hF
 have V15 : Ct H13 i2 o3 6 = some (D3 (T_memory_Mem.mk x5.layout_ v11)) := by rw [← h14]; exact Bv V6 rfl
 refine Aj ⟨[], [], H13⟩ ?_ ?_
 refine yr 3 ⟨L12, [], H⟩ ?_
 refine Ai ⟨L12 ++ [E6], [], H⟩ (fZ (X := X) (⟨L12, [], H⟩ : St) 42 V6 5 0 1 (List.map (eI .u32) x5.words_) (some 35) (by kernel_rfl) (by kernel_rfl) (by kernel_rfl) (by kernel_rfl) (by kernel_rfl) (by kernel_rfl)) ?_
 refine yr 2 ⟨L13, [], H⟩ ?_
 refine Ai ⟨L13 ++ [E7], [], H⟩ (iK (X := X) (⟨L13, [], H⟩ : St) 42 35 1 h9 (eI .u32) (.obj i2 (o3 + 5)) 0 (some (.tmp 37)) (some 38) (by kernel_rfl) (by kernel_rfl) (by kernel_rfl) (Yx (k := 5) (c := ((.own 1), .sl 1 (List.map (eI .u32) x5.words_))) V6 (by kernel_rfl) (by kernel_rfl)) (show (opnd X.P (⟨L13, [], H⟩ : St) 0 (.tmp 37)).bind T2 = some (IntKind.wrap .u32 (Int.tdiv p1 4)) by kernel_rfl) (by kernel_rfl)) ?_
 refine yr 1 ⟨L16, [], H⟩ ?_
 refine Ai ⟨L16 ++ [E8], [], W1⟩ (mF (X := X) (lc := []) (h2 := W1) (⟨L16, [], H⟩ : St) 42 35 V6 5 0 1 (eI .u32) .bl x5.words_ p2 (Int.toNat (IntKind.wrap .u32 (Int.tdiv p1 4))) h12 (some 40) (mE h9) (by kernel_rfl) (by kernel_rfl) (by kernel_rfl) (fun _ => rfl) (fun _ => rfl) (by kernel_rfl) (by kernel_rfl) (Cd V6 (Nat.le_of_ble_eq_true rfl)) (by kernel_rfl)) ?_
 refine Bd (congrArg (fun q => (⟨L16 ++ [E8], [], q⟩ : St)) h14) ?_
 exact ye
 refine ysg ⟨[(6, vi 0)], [], H13⟩ ?_
 refine Au ?_
 obtain ⟨e0, e1⟩ := Ar hF
 subst e0
 subst e1
 exact yi (vi 0)
noncomputable def N7 (H : Ah) (p0 : T_cpu_Setup) (p1 : (List Int)) : Option (Ah × Ptr) :=
  Af (app 4 ([] : List Int) p1) fun v1 =>
  bnd H.length fun i4 =>
  bnd (Lj H (T_cpu_Cpu.mk (Ij [0, 0, 0, 0, 0, 0, 0, 0, 0, 0, 0, 0, 0, 0, 0, 0] : Arr 16 Int) p0.Entry_ 0 0 0 0 0 0 ([] : List T_api_Event) p0 v1)) fun H3 =>
  some (H3, (Ptr.at i4 0))
theorem gC (H : Ah) {p0 : T_cpu_Setup} {p1 : (List Int)} {ra : Ptr} {Hr : Ah} (hF : N7 H p0 p1 = some (Hr, ra)) : evS X 89 [.agg (Gc p0), .one (.own 1) (.sl 1 (List.map (eI .i32) p1))] H = some (.one .top (Ptr.av ra), Hr) := by
 let E1 : EN := (1, .one (.own 1) (.sl 1 (List.map (eI .i32) p1)))
 let B2 : EB := (2, (Gc p0))
 let E3 : EN := (5, vl 2 0)
 let E4 : EN := (6, vu p0.Entry_)
 let E5 : EN := (9, .one .bl (.sl 1 (List.map (eI .i32) p1)))
 let E6 : EN := (8, .one .top .junk)
 let E7 : EN := (10, .one .top .junk)
 let E8 : EN := (9, .one .top .junk)
 let E9 : EN := (11, .agg (List.replicate 16 (.top, .int .u32 0) ++ [(.top, .int .u32 p0.Entry_), (.top, .int .u32 0), (.top, .int .u32 0)] ++ List.replicate 4 (.top, .int .i64 0) ++ [(.top, .junk), (.top, .int .u32 p0.Entry_), (.top, .int .u32 p0.Vector_), (.top, .int .u32 p0.Guard_), (.top, .int .u32 p0.Limit_), (.top, .junk)]))
 let E10 : EN := (7, .agg (Gc p0))
 let L11 : List EN := [E1, (2, vl 2 0)]
 let L12 : List EN := L11 ++ [E3, E4, E10]
 refine yf Try.func89 false ⟨[(0, .agg (Gc p0)), E1], [], H⟩ ?_
 unfold N7 at hF
 refine ysg ⟨L11, [B2], H⟩ ?_
 refine Ag ?_
 obtain ⟨v1, h2, hF⟩ := Ab hF
 obtain ⟨i4, h6, hF⟩ := Cl hF
 obtain ⟨H3, h5, hF⟩ := Cl hF
 refine Bs (.take 0 (.take 1 (.take 2 (.take 4 (.last 3 (.last 5 (.take 6 (.last 7 (.take 8 .done))))))))) (by kernel_rfl) (⟨[(4, vo i4 0)], [], H3⟩ : St) ?_ ?_
 refine ydk 4 ⟨L12 ++ [E5], [B2], H⟩ ?_
 refine ydl ⟨L12 ++ [(8, .one (.own 1) (.sl 1 (List.map (eI .i32) ([] : List Int)))), E5], [B2], H⟩ ?_
 refine Br ⟨L12 ++ [E6, E5, (10, .one (.own 1) (.sl 1 (List.map (eI .i32) v1)))], [B2], H⟩ (Gu (X := X) (⟨L12 ++ [E6, E5], [B2], H⟩ : St) 4 h2 48 48 21 1 0 [(.top, .int .i32 0)] .bl (eI .i32) 9 (some 10) (by kernel_rfl) (by kernel_rfl) (by kernel_rfl) (by kernel_rfl) (by kernel_rfl) (by kernel_rfl) (by kernel_rfl) (by kernel_rfl) (If rfl fun _ => rfl) (fun _ => rfl) (by kernel_rfl)) ?_
 refine ydt ⟨L12 ++ [E6, E5, E7, (11, .agg (List.replicate 16 (.top, .int .u32 0) ++ [(.top, .int .u32 p0.Entry_), (.top, .int .u32 0), (.top, .int .u32 0)] ++ List.replicate 4 (.top, .int .i64 0) ++ [((.own 1), .sl 2 (List.map Ad ([] : List T_api_Event))), (.top, .int .u32 p0.Entry_), (.top, .int .u32 p0.Vector_), (.top, .int .u32 p0.Guard_), (.top, .int .u32 p0.Limit_), ((.own 1), .sl 1 (List.map (eI .i32) v1))]))], [B2], H⟩ ?_
 refine ydl ⟨L12 ++ [E6, E8, E7, E9, (12, vo H.length 0)], [B2], (H ++ [(List.replicate 16 (.top, .int .u32 0) ++ [(.top, .int .u32 p0.Entry_), (.top, .int .u32 0), (.top, .int .u32 0)] ++ List.replicate 4 (.top, .int .i64 0) ++ [((.own 1), .sl 2 (List.map Ad ([] : List T_api_Event))), (.top, .int .u32 p0.Entry_), (.top, .int .u32 p0.Vector_), (.top, .int .u32 p0.Guard_), (.top, .int .u32 p0.Limit_), ((.own 1), .sl 1 (List.map (eI .i32) v1))])])⟩ ?_
 refine Fi (fX (fun q u => (⟨L12 ++ [E6, E8, E7, E9, (12, vo q 0)], [B2], u⟩ : St)) h6 h5) ?_
 refine ydt ⟨L11 ++ [(4, vo i4 0), E3, E4, E10, E6, E8, E7, E9, (12, vo i4 0)], [B2], H3⟩ ?_
 exact yde
 refine Au ?_
 obtain ⟨e0, e1⟩ := Ar hF
 subst e0
 subst e1
 exact yi (vo i4 0)
noncomputable def D0 (H : Ah) (p0 : Ptr) (p1 : Int) : Option (Int × Int) :=
  if ((Int.tmod p1 4) != 0) = true then (some (0, 30))
  else ((p0).bnd fun i2 o3 =>
  Af (Cu H i2 o3) fun x5 =>
  if (decide (p1 ≥ x5.layout_.Stack_)) = true then (some (0, 31))
  else (some ((IntKind.wrap .i64 (IntKind.wrap .u32 (Int.tdiv p1 4))), 0)))
theorem Kr (H : Ah) {p0 : Ptr} {p1 : Int} {ra : Int} {rb : Int} (hF : D0 H p0 p1 = some (ra, rb)) : evS X 120 [.one .top (Ptr.av p0), .one .top (.int .u32 p1)] H = some (.tup [.one .top (.int .i64 ra), .one .top (.int .i64 rb)], H) := by
 let E1 : Ptr → EN := fun z0 => (0, vp z0)
 let E2 : EN := (1, vu p1)
 let E4 : EN := (11, vu p1)
 let S9 : Ptr → St := fun z0 => ⟨[(E1 z0), E2], [], H⟩
 refine yf Try.func120 true (S9 p0) ?_
 unfold D0 at hF
 refine ysg (S9 p0) ?_ (h := (by generalize p0 = qp0; cases qp0 <;> kernel_rfl))
 refine Ag ?_
 refine Bt ?_
 refine ysg ⟨[(E1 p0), E2, (6, vb ((Int.tmod p1 4) != 0))], [], H⟩ ?_ (h := (by generalize p0 = qp0; cases qp0 <;> kernel_rfl))
 rcases Ae hF with ⟨h1, hF⟩ | ⟨h1, hF⟩
 refine yT h1 ⟨[], [], H⟩ ?_
 refine ysg ⟨[(4, vi 0), (5, vi 30)], [], H⟩ ?_
 refine Au ?_
 obtain ⟨e0, e1⟩ := Ar hF
 subst e0
 subst e1
 exact yp (.tup [vi 0, vi 30])
 refine yF h1 (S9 p0) ?_
 refine Ag ?_
 obtain ⟨i2, o3, h4, hF⟩ := Bu hF
 let E5 : EN := (12, vo i2 o3)
 let E6 : EN := (13, vo i2 o3)
 let L8 : List EN := [(0, vo i2 o3), E2, E4, E5, E6, (14, vo i2 o3), (15, vo i2 (o3 + 4))]
 obtain ⟨x5, V6, hF⟩ := Ab hF
 replace V6 := Bb V6
 let E3 : EN := (10, vb (decide (p1 ≥ x5.layout_.Stack_)))
 let E7 : EN := (16, vu x5.layout_.Stack_)
 refine Aj ⟨[E2, E3], [], H⟩ ?_ ?_
 refine yr 2 ⟨[(E1 p0), E2, E4, (12, vp p0)], [], H⟩ ?_ (h := (by generalize p0 = qp0; cases qp0 <;> kernel_rfl))
 refine Bd (congrArg (fun q => (⟨[(0, vp q), E2, E4, (12, vp q)], [], H⟩ : St)) h4) ?_
 refine yr 1 ⟨[(0, vo i2 o3), E2, E4, E5, E6], [], H⟩ ?_
 refine yr 2 ⟨L8, [], H⟩ ?_
 refine Ai ⟨L8 ++ [E7], [], H⟩ (yd (X := X) (⟨L8, [], H⟩ : St) 35 V6 4 1 false (vu x5.layout_.Stack_) (some 16)) ?_
 refine yr 2 ⟨[(0, vo i2 o3), E2, E3, E4, E5, E6, (14, vo i2 o3), (15, vo i2 (o3 + 4)), E7, (17, vb (decide (p1 ≥ x5.layout_.Stack_)))], [], H⟩ ?_
 exact ye
 rcases Ae hF with ⟨h7, hF⟩ | ⟨h7, hF⟩
 refine yT h7 ⟨[], [], H⟩ ?_
 refine ysg ⟨[(4, vi 0), (5, vi 31)], [], H⟩ ?_
 refine Au ?_
 obtain ⟨e0, e1⟩ := Ar hF
 subst e0
 subst e1
 exact yp (.tup [vi 0, vi 31])
 refine yF h7 ⟨[E2], [], H⟩ ?_
 refine Ao ?_
 refine ysg ⟨[(4, vi (IntKind.wrap .i64 (IntKind.wrap .u32 (Int.tdiv p1 4)))), (5, vi 0)], [], H⟩ ?_
 refine Au ?_
 obtain ⟨e0, e1⟩ := Ar hF
 subst e0
 subst e1
 exact yp (.tup [vi (IntKind.wrap .i64 (IntKind.wrap .u32 (Int.tdiv p1 4))), vi 0])
noncomputable def Hf (H : Ah) (p0 : Ptr) (p1 : Int) : Option (Int × Int) :=
  Cc (D0 H p0 p1) fun r1 r2 =>
  if (r2 != 0) = true then (some (0, r2))
  else ((p0).bnd fun i5 o6 =>
  Af (Cu H i5 o6) fun x8 =>
  if (decide (p1 ≥ x8.layout_.Code_)) = true then (some (0, 31))
  else (Af (gi x8.words_ r1) fun x11 =>
  some (x11, 0)))
theorem Sp (H : Ah) {p0 : Ptr} {p1 : Int} {ra : Int} {rb : Int} (hF : Hf H p0 p1 = some (ra, rb)) : evS X 99 [.one .top (Ptr.av p0), .one .top (.int .u32 p1)] H = some (.tup [.one .top (.int .u32 ra), .one .top (.int .i64 rb)], H) := by
 let E1 : Ptr → EN := fun z0 => (0, vp z0)
 let E2 : EN := (1, vu p1)
 let L16 : Ptr → List EN := fun z0 => [(E1 z0), E2, (9, vp z0), (10, vu p1)]
 let S19 : Ptr → St := fun z0 => ⟨[(E1 z0), E2], [], H⟩
 refine yf Try.func99 true (S19 p0) ?_
 unfold Hf at hF
 refine ysg (S19 p0) ?_ (h := (by generalize p0 = qp0; cases qp0 <;> kernel_rfl))
 refine Ag ?_
 obtain ⟨r1, r2, c3, hF⟩ := Be hF
 let E3 : EN := (11, .tup [vi r1, vi r2])
 let E4 : EN := (6, vi r1)
 let L14 : List EN := [E2, E4, (19, vu p1)]
 let L17 : Ptr → List EN := fun z0 => [(E1 z0), E2, E4, (7, vi r2)]
 refine Aj ⟨(L17 p0), [], H⟩ ?_ ?_
 refine yr 2 ⟨(L16 p0), [], H⟩ ?_ (h := (by generalize p0 = qp0; cases qp0 <;> kernel_rfl))
 refine Ai ⟨(L16 p0) ++ [E3], [], H⟩ (yc (some 11) true false (⟨(L16 p0), [], H⟩ : St) (Kr H c3) (hr := (by generalize p0 = qp0; cases qp0 <;> kernel_rfl)) (hs := (by generalize p0 = qp0; cases qp0 <;> kernel_rfl))) ?_
 refine yr 5 ⟨(L17 p0) ++ [(8, .tup [vi r1, vi r2]), (9, vp p0), (10, vu p1), E3, (12, vi r1), (13, vi r2)], [], H⟩ ?_ (h := (by generalize p0 = qp0; cases qp0 <;> kernel_rfl))
 exact ye
 refine Ag ?_
 refine Bt ?_
 refine ysg ⟨(L17 p0) ++ [(14, vb (r2 != 0))], [], H⟩ ?_ (h := (by generalize p0 = qp0; cases qp0 <;> kernel_rfl))
 rcases Ae hF with ⟨h4, hF⟩ | ⟨h4, hF⟩
 refine yT h4 ⟨[(7, vi r2)], [], H⟩ ?_
 refine ysg ⟨[(4, vu 0), (5, vi r2)], [], H⟩ ?_
 refine Au ?_
 obtain ⟨e0, e1⟩ := Ar hF
 subst e0
 subst e1
 exact yp (.tup [vu 0, vi r2])
 refine yF h4 ⟨[(E1 p0), E2, E4], [], H⟩ ?_
 refine Ag ?_
 obtain ⟨i5, o6, h7, hF⟩ := Bu hF
 let E6 : EN := (0, vo i5 o6)
 let E7 : EN := (20, vo i5 o6)
 let E8 : EN := (21, vo i5 o6)
 let L12 : List EN := [E6, E4]
 let L13 : List EN := [(26, vo i5 o6), (27, vo i5 o6), (28, vo i5 (o6 + 5))]
 let L18 : List EN := [E6] ++ L14 ++ [E7, E8, (22, vo i5 o6), (23, vo i5 o6)]
 obtain ⟨x8, V9, hF⟩ := Ab hF
 replace V9 := Bb V9
 let E5 : EN := (18, vb (decide (p1 ≥ x8.layout_.Code_)))
 let E9 : EN := (24, vu x8.layout_.Code_)
 let E10 : EN := (29, .one .bh (.sl 1 (List.map (eI .u32) x8.words_)))
 let L15 : List EN := L12 ++ L13 ++ [E10, (30, vi r1)]
 refine Aj ⟨L12 ++ [E5], [], H⟩ ?_ ?_
 refine yr 2 ⟨[(E1 p0)] ++ L14 ++ [(20, vp p0)], [], H⟩ ?_ (h := (by generalize p0 = qp0; cases qp0 <;> kernel_rfl))
 refine Bd (congrArg (fun q => (⟨[(0, vp q)] ++ L14 ++ [(20, vp q)], [], H⟩ : St)) h7) ?_
 refine yr 1 ⟨[E6] ++ L14 ++ [E7, E8], [], H⟩ ?_
 refine yr 2 ⟨L18, [], H⟩ ?_
 refine Ai ⟨L18 ++ [E9], [], H⟩ (yd (X := X) (⟨L18, [], H⟩ : St) 35 V9 0 1 false (vu x8.layout_.Code_) (some 24)) ?_
 refine yr 2 ⟨[E6, E2, E4, E5, (19, vu p1), E7, E8, (22, vo i5 o6), (23, vo i5 o6), E9, (25, vb (decide (p1 ≥ x8.layout_.Code_)))], [], H⟩ ?_
 exact ye
 rcases Ae hF with ⟨h10, hF⟩ | ⟨h10, hF⟩
 refine yT h10 ⟨[], [], H⟩ ?_
 refine ysg ⟨[(4, vu 0), (5, vi 31)], [], H⟩ ?_
 refine Au ?_
 obtain ⟨e0, e1⟩ := Ar hF
 subst e0
 subst e1
 exact yp (.tup [vu 0, vi 31])
 refine yF h10 ⟨L12, [], H⟩ ?_
 refine Ao ?_
 refine Ag ?_
 obtain ⟨x11, h12, hF⟩ := Ab hF
 let E11 : EN := (31, .one .top (.rd .bh .bh [.int .u32 x11] 0))
 refine Aj ⟨[(4, vu x11), (5, vi 0)], [], H⟩ ?_ ?_
 refine yr 3 ⟨L12 ++ L13, [], H⟩ ?_
 refine Ai ⟨L12 ++ L13 ++ [E10], [], H⟩ (yd (X := X) (⟨L12 ++ L13, [], H⟩ : St) 42 V9 5 1 false (.one .bh (.sl 1 (List.map (eI .u32) x8.words_))) (some 29)) ?_
 refine yr 1 ⟨L15, [], H⟩ ?_
 refine Ai ⟨L15 ++ [E11], [], H⟩ (P5 (X := X) (⟨L15, [], H⟩ : St) 42 35 1 h12 (eI .u32) .bh (some 31) (by kernel_rfl) (by kernel_rfl) (by kernel_rfl) (by kernel_rfl)) ?_
 refine yr 3 ⟨[E6, (4, vu x11), (5, vi 0), E4] ++ L13 ++ [E10, (30, vi r1), E11, (32, vu x11)], [], H⟩ ?_
 exact ye
 refine Au ?_
 obtain ⟨e0, e1⟩ := Ar hF
 subst e0
 subst e1
 exact yp (.tup [vu x11, vi 0])
noncomputable def Bq (H : Ah) (p0 : Ptr) (p1 : Int) : Option (Ah) :=
  (p0).bnd fun i1 o2 =>
  Af (Bf H i1 o2) fun x4 =>
  bnd (Bl H i1 o2 (T_cpu_Cpu.mk x4.R_ x4.PC_ x4.EPC_ x4.Cause_ 2 p1 x4.Steps_ x4.Taken_ x4.Out_ x4.setup_ x4.input_)) fun H6 =>
  some H6
theorem Fj (H : Ah) {p0 : Ptr} {p1 : Int} {Hr : Ah} (hF : Bq H p0 p1 = some Hr) : evS X 100 [.one .top (Ptr.av p0), .one .top (.int .i64 p1)] H = some (.tup [], Hr) := by
 refine yf Try.func100 false ⟨[(0, vp p0), (1, vi p1)], [], H⟩ ?_
 unfold Bq at hF
 obtain ⟨i1, o2, h3, hF⟩ := Bu hF
 let E3 : EN := (8, vo i1 (o2 + 19))
 let L4 : List EN := [(0, vo i1 o2), (1, vi p1), (4, vo i1 o2), (5, vo i1 o2), (6, vi p1), (7, vo i1 o2)]
 let L5 : List EN := L4 ++ [E3, (9, vo i1 o2), (10, vo i1 (o2 + 20))]
 obtain ⟨x4, V5, hF⟩ := Ab hF
 replace V5 := Bb V5
 let W1 : Ah := Dt H i1 o2 (arM .u32 16 x4.R_ ++ [(.top, .int .u32 x4.PC_), (.top, .int .u32 x4.EPC_), (.top, .int .u32 x4.Cause_), (.top, .int .i64 2), (.top, .int .i64 x4.Why_), (.top, .int .i64 x4.Steps_), (.top, .int .i64 x4.Taken_), ((.own 1), .sl 2 (List.map Ad x4.Out_)), (.top, .int .u32 x4.setup_.Entry_), (.top, .int .u32 x4.setup_.Vector_), (.top, .int .u32 x4.setup_.Guard_), (.top, .int .u32 x4.setup_.Limit_), ((.own 1), .sl 1 (List.map (eI .i32) x4.input_))])
 let W2 : Ah := Dt H i1 o2 (arM .u32 16 x4.R_ ++ [(.top, .int .u32 x4.PC_), (.top, .int .u32 x4.EPC_), (.top, .int .u32 x4.Cause_), (.top, .int .i64 2), (.top, .int .i64 p1), (.top, .int .i64 x4.Steps_), (.top, .int .i64 x4.Taken_), ((.own 1), .sl 2 (List.map Ad x4.Out_)), (.top, .int .u32 x4.setup_.Entry_), (.top, .int .u32 x4.setup_.Vector_), (.top, .int .u32 x4.setup_.Guard_), (.top, .int .u32 x4.setup_.Limit_), ((.own 1), .sl 1 (List.map (eI .i32) x4.input_))])
 obtain ⟨H6, h7, hF⟩ := Cl hF
 have V8 : Ct H6 i1 o2 29 = some (Bz (T_cpu_Cpu.mk x4.R_ x4.PC_ x4.EPC_ x4.Cause_ 2 p1 x4.Steps_ x4.Taken_ x4.Out_ x4.setup_ x4.input_)) := by rw [← h7]; exact Bv V5 rfl
 refine Aj ⟨[], [], H6⟩ ?_ ?_
 refine yr 3 ⟨[(0, vp p0), (1, vi p1), (4, vp p0), (5, vp p0), (6, vi p1)], [], H⟩ ?_ (h := (by generalize p0 = qp0; cases qp0 <;> kernel_rfl))
 refine Bd (congrArg (fun q => (⟨[(0, vp q), (1, vi p1), (4, vp q), (5, vp q), (6, vi p1)], [], H⟩ : St)) h3) ?_
 refine yr 1 ⟨L4, [], H⟩ ?_
 refine yr 1 ⟨L4 ++ [E3], [], H⟩ ?_
 refine Ai ⟨L4 ++ [E3], [], W1⟩ (G7 (X := X) (lc := []) (h2 := W1) (⟨L4 ++ [E3], [], H⟩ : St) 3 V5 19 1 (vi 2) (by kernel_rfl) (by kernel_rfl) (by kernel_rfl) (by kernel_rfl) (by kernel_rfl) (by kernel_rfl) (Cd V5 (Nat.le_of_ble_eq_true rfl)) (by kernel_rfl)) ?_
 refine yr 2 ⟨L5, [], W1⟩ ?_
 refine Ai ⟨L5, [], W2⟩ (G7 (X := X) (lc := []) (h2 := W2) (⟨L5, [], W1⟩ : St) 33 (Bv V5 rfl) 20 1 (vi p1) (by kernel_rfl) (by kernel_rfl) (by kernel_rfl) (by kernel_rfl) (by kernel_rfl) (by kernel_rfl) (Lw V5 rfl (Nat.le_of_ble_eq_true rfl)) (by kernel_rfl)) ?_
 refine Bd (congrArg (fun q => (⟨L5, [], q⟩ : St)) h7) ?_
 exact ye
 obtain e0 := Am hF
 subst e0
 exact yi (vN)
noncomputable def Ll  (p0 : Int) (p1 : Int) : Option (Int) :=
  if (decide (p1 < 1)) = true then (some 0)
  else (Af (Qz .u32 p0 (IntKind.wrap .i64 (32 - (if 32 < p1 then 32 else p1)))) fun v2 =>
  Af (dW .i32 (IntKind.wrap .i32 v2) (IntKind.wrap .i64 (32 - (if 32 < p1 then 32 else p1)))) fun v4 =>
  some v4)
theorem Uo (H : Ah) {p0 : Int} {p1 : Int} {ra : Int} (hF : Ll p0 p1 = some ra) : evS X 121 [.one .top (.int .u32 p0), .one .top (.int .i64 p1)] H = some (.one .top (.int .i32 ra), H) := by
 let E1 : EN := (0, vu p0)
 let E2 : EN := (5, vi (IntKind.wrap .i64 (32 - (if 32 < p1 then 32 else p1))))
 let E5 : EN := (12, vi (IntKind.wrap .i64 (32 - (if 32 < p1 then 32 else p1))))
 let L6 : List EN := [E1, E2, (11, vu p0), E5]
 let S8 : St := ⟨[E1, (1, vi p1)], [], H⟩
 refine yf Try.func121 true S8 ?_
 unfold Ll at hF
 refine ysg S8 ?_
 refine Ag ?_
 refine ysg ⟨[E1, (1, vi p1), (7, vb (decide (p1 < 1)))], [], H⟩ ?_
 rcases Ae hF with ⟨h1, hF⟩ | ⟨h1, hF⟩
 refine yT h1 ⟨[], [], H⟩ ?_
 refine ysg ⟨[(4, .one .top (.int .i32 0))], [], H⟩ ?_
 refine Au ?_
 obtain e0 := Am hF
 subst e0
 exact yp (.one .top (.int .i32 0))
 refine yF h1 S8 ?_
 refine Ao ?_
 refine ysg ⟨[E1, E2], [], H⟩ ?_
 refine Ag ?_
 obtain ⟨v2, h3, hF⟩ := Ab hF
 let L7 : List EN := [(13, vu v2), (14, .one .top (.int .i32 (IntKind.wrap .i32 v2))), (15, vi (IntKind.wrap .i64 (32 - (if 32 < p1 then 32 else p1))))]
 obtain ⟨v4, h5, hF⟩ := Ab hF
 let E3 : EN := (4, .one .top (.int .i32 v4))
 let E4 : EN := (16, .one .top (.int .i32 v4))
 refine Aj ⟨[E3], [], H⟩ ?_ ?_
 refine yr 2 ⟨L6, [], H⟩ ?_
 refine Ai ⟨L6 ++ [(13, vu v2)], [], H⟩ (Lx (⟨L6, [], H⟩ : St) .u32 h3 (bX (P := X.P) (ty := 35) (x := (.tmp 11)) (y := (.tmp 12)) (m := .top) (m' := .top) (k := .u32) (k' := .i64) (a := p0) (b := (IntKind.wrap .i64 (32 - (if 32 < p1 then 32 else p1))))) (some 13) (by kernel_rfl) (by kernel_rfl)) ?_
 refine yr 2 ⟨L6 ++ L7, [], H⟩ ?_
 refine Ai ⟨L6 ++ L7 ++ [E4], [], H⟩ (Lx (⟨L6 ++ L7, [], H⟩ : St) .i32 h5 (pP (P := X.P) (ty := 21) (x := (.tmp 14)) (y := (.tmp 15)) (m := .top) (m' := .top) (k := .i32) (k' := .i64) (a := (IntKind.wrap .i32 v2)) (b := (IntKind.wrap .i64 (32 - (if 32 < p1 then 32 else p1))))) (some 16) (by kernel_rfl) (by kernel_rfl)) ?_
 refine yr 1 ⟨[E1, E3, E2, (11, vu p0), E5] ++ L7 ++ [E4], [], H⟩ ?_
 exact ye
 refine Au ?_
 obtain e0 := Am hF
 subst e0
 exact yp (.one .top (.int .i32 v4))
noncomputable def Dv (p0 : Int) (j5 : T_instr_Instr) : Option (T_instr_Instr × Int) :=
  Cc (Do j5) fun r6 r7 =>
  if ((r7 != 0) || (r6 != p0)) = true then (some ((T_instr_Instr.mk 0 0 0 0 0), 21))
  else (some (j5, 0))
noncomputable def Ec (p0 : Int) (j15 : T_instr_Instr) : Option (T_instr_Instr × Int) :=
  Dv p0 j15
noncomputable def Ed (p0 : Int) (j17 : T_instr_Instr) : Option (T_instr_Instr × Int) :=
  Ec p0 j17
noncomputable def Ee (p0 : Int) (j21 : T_instr_Instr) : Option (T_instr_Instr × Int) :=
  Ed p0 j21
noncomputable def Ef (p0 : Int) (j3 : T_instr_Instr) (r1 : Int) (j14 : Bool) : Option (T_instr_Instr × Int) :=
  if j14 = true then (Ec p0 (T_instr_Instr.mk j3.Op_ j3.A_ j3.B_ j3.C_ (IntKind.wrap .i64 (A9 .and .u32 p0 65535))))
  else (if (r1 == 7) = true then (Af (Ll p0 24) fun r19 =>
  Ed p0 (T_instr_Instr.mk j3.Op_ j3.A_ j3.B_ j3.C_ (IntKind.wrap .i64 r19)))
  else (if (r1 == 5) = true then (Ee p0 (T_instr_Instr.mk j3.Op_ j3.A_ j3.B_ (IntKind.wrap .i64 (A9 .and .u32 p0 15)) j3.Imm_))
  else (Ee p0 j3)))
noncomputable def Eg (p0 : Int) (j3 : T_instr_Instr) (r1 : Int) (j24 : Bool) : Option (T_instr_Instr × Int) :=
  Ef p0 j3 r1 j24
noncomputable def Eh (p0 : Int) (j3 : T_instr_Instr) (r1 : Int) (j4 : Bool) : Option (T_instr_Instr × Int) :=
  if j4 = true then (Af (Ll p0 16) fun r12 =>
  Dv p0 (T_instr_Instr.mk j3.Op_ j3.A_ j3.B_ j3.C_ (IntKind.wrap .i64 r12)))
  else (if (r1 == 2) = true then (Ef p0 j3 r1 (r1 == 2))
  else (if (r1 == 4) = true then (Eg p0 j3 r1 (r1 == 4))
  else (Eg p0 j3 r1 (r1 == 8))))
noncomputable def Ei (r1 : Int) (p0 : Int) (j3 : T_instr_Instr) : Option (T_instr_Instr × Int) :=
  if (r1 == 1) = true then (Eh p0 j3 r1 (r1 == 1))
  else (Eh p0 j3 r1 (r1 == 3))
noncomputable def Km  (p0 : Int) : Option (T_instr_Instr × Int) :=
  Af (D7 (IntKind.wrap .i64 (Int.fdiv p0 (2 ^ 24)))) fun r1 =>
  if (r1 != 7) = true then (Ei r1 p0 (T_instr_Instr.mk (IntKind.wrap .i64 (Int.fdiv p0 (2 ^ 24))) (IntKind.wrap .i64 (A9 .and .u32 (Int.fdiv p0 (2 ^ 20)) 15)) (IntKind.wrap .i64 (A9 .and .u32 (Int.fdiv p0 (2 ^ 16)) 15)) 0 0))
  else (Ei r1 p0 (T_instr_Instr.mk (IntKind.wrap .i64 (Int.fdiv p0 (2 ^ 24))) 0 0 0 0))
theorem Wb (H : Ah) {p0 : Int} {ra : T_instr_Instr} {rb : Int} (hF : Km p0 = some (ra, rb)) : evS X 101 [.one .top (.int .u32 p0)] H = some (.tup [.agg [(.top, .int .i64 ra.Op_), (.top, .int .i64 ra.A_), (.top, .int .i64 ra.B_), (.top, .int .i64 ra.C_), (.top, .int .i64 ra.Imm_)], .one .top (.int .i64 rb)], H) := by
 let E1 : EN := (2, vl 2 0)
 let B2 : EB := (2, (List.replicate 5 (.top, .int .i64 0)))
 let B3 : EB := (4, ([(.top, .int .i64 (IntKind.wrap .i64 (Int.fdiv p0 (2 ^ 24))))] ++ List.replicate 4 (.top, .int .i64 0)))
 let E4 : EN := (12, vl 4 0)
 let E5 : EN := (13, vi (IntKind.wrap .i64 (Int.fdiv p0 (2 ^ 24))))
 let E11 : EN := (31, vu p0)
 let E14 : EN := (45, vu p0)
 let L16 : List EN := [E1, (4, vl 4 0)]
 let L17 : List EN := [(0, vu p0)] ++ L16
 refine yf Try.func101 true ⟨[(0, vu p0)], [], H⟩ ?_
 unfold Km at hF
 refine ysg ⟨[(0, vu p0), E1], [B2], H⟩ ?_
 refine ysg ⟨L17, [B2, B3], H⟩ ?_
 refine Ag ?_
 obtain ⟨r1, c2, hF⟩ := Ab hF
 let L18 : List EN := L17 ++ [(27, vi r1)]
 let L19 : List EN := L17 ++ [(5, vi r1)]
 refine Aj ⟨L19, [B2, B3], H⟩ ?_ ?_
 refine yr 2 ⟨L17 ++ [E4, E5], [B2, B3], H⟩ ?_
 refine Ai ⟨L17 ++ [E4, E5, (14, vi r1)], [B2, B3], H⟩ (yc (some 14) true false (⟨L17 ++ [E4, E5], [B2, B3], H⟩ : St) (Ma H c2)) ?_
 refine yr 1 ⟨L19 ++ [E4, E5, (14, vi r1)], [B2, B3], H⟩ ?_
 exact ye
 refine Ag ?_
 refine ysg ⟨L19 ++ [(16, vb (r1 != 7))], [B2, B3], H⟩ ?_
 refine As (α := (T_instr_Instr)) (fun x => (⟨L19, [B2, (4, (Ap x))], H⟩ : St)) (fun x => Ei r1 p0 x = some (ra, rb)) ?_ ?_
 rintro j3 hF
 replace hF : Ei r1 p0 j3 = some (ra, rb) := hF
 let B6 : EB := (4, (Ap j3))
 unfold Ei at hF
 refine Ag ?_
 refine ysg ⟨L18, [B2, B6], H⟩ ?_
 refine Bt ?_
 refine Ag ?_
 refine ysg ⟨L18 ++ [(28, vb (r1 == 1))], [B2, B6], H⟩ ?_
 refine As (α := (Bool)) (fun x => (⟨L18 ++ [(28, vb x)], [B2, B6], H⟩ : St)) (fun x => Eh p0 j3 r1 x = some (ra, rb)) ?_ ?_
 rintro j4 hF
 replace hF : Eh p0 j3 r1 j4 = some (ra, rb) := hF
 unfold Eh at hF
 refine As (α := (T_instr_Instr)) (fun x => (⟨L17, [B2, (4, (Ap x))], H⟩ : St)) (fun x => Dv p0 x = some (ra, rb)) ?_ ?_
 rintro j5 hF
 replace hF : Dv p0 j5 = some (ra, rb) := hF
 let B7 : EB := (4, (Ap j5))
 let E8 : EN := (56, .agg (Ap j5))
 unfold Dv at hF
 refine Ag ?_
 obtain ⟨r6, r7, c8, hF⟩ := Be hF
 let E9 : EN := (57, .tup [vu r6, vi r7])
 let L20 : List EN := L17 ++ [(6, vu r6), (7, vi r7), (60, vi r7)]
 refine Aj ⟨L17 ++ [(6, vu r6), (7, vi r7)], [B2, B7], H⟩ ?_ ?_
 refine yr 1 ⟨L17 ++ [E8], [B2, B7], H⟩ ?_
 refine Ai ⟨L17 ++ [E8, E9], [B2, B7], H⟩ (yc (some 57) true false (⟨L17 ++ [E8], [B2, B7], H⟩ : St) (Nz H c8)) ?_
 refine yr 5 ⟨L17 ++ [(6, vu r6), (7, vi r7), (55, .tup [vu r6, vi r7]), E8, E9, (58, vu r6), (59, vi r7)], [B2, B7], H⟩ ?_
 exact ye
 refine Ag ?_
 refine yso ⟨L16 ++ [(66, vb ((r7 != 0) || (r6 != p0)))], [B2, B7], H⟩ ?_ ?_
 refine yr 3 ⟨L20 ++ [(61, vb (r7 != 0)), (62, vb (r7 != 0))], [B2, B7], H⟩ ?_
 rcases Ax (r7 != 0) with h9 | h9
 refine Bd (congrArg (fun q => (⟨L20 ++ [(61, vb q), (62, vb q)], [B2, B7], H⟩ : St)) h9) ?_
 refine yr 4 ⟨L20 ++ [(61, vT), (62, vT), (63, vN), (64, vN), (65, vN), (66, vT)], [B2, B7], H⟩ ?_
 refine Bw (congrArg (fun q0 => (⟨L16 ++ [(66, vb q0)], [B2, B7], H⟩ : St)) (show true = ((r7 != 0) || (r6 != p0)) by simp [h9])) ?_
 exact ye
 refine Bd (congrArg (fun q => (⟨L20 ++ [(61, vb q), (62, vb q)], [B2, B7], H⟩ : St)) h9) ?_
 refine yr 4 ⟨L20 ++ [(61, vF), (62, vF), (63, vu r6), (64, vu p0), (65, vb (r6 != p0)), (66, vb (r6 != p0))], [B2, B7], H⟩ ?_
 refine Bw (congrArg (fun q0 => (⟨L16 ++ [(66, vb q0)], [B2, B7], H⟩ : St)) (show (r6 != p0) = ((r7 != 0) || (r6 != p0)) by simp [h9])) ?_
 exact ye
 rcases Ae hF with ⟨h10, hF⟩ | ⟨h10, hF⟩
 refine yT h10 ⟨[E1], [B2], H⟩ ?_
 refine ysg ⟨[E1, (3, vi 21)], [B2], H⟩ ?_
 refine Au ?_
 obtain ⟨e0, e1⟩ := Ar hF
 subst e0
 subst e1
 exact yp (.tup [.agg (List.replicate 5 (.top, .int .i64 0)), vi 21])
 refine yF h10 ⟨L16, [B2, B7], H⟩ ?_
 refine Ao ?_
 refine ysg ⟨[E1, (3, vi 0)], [(2, (Ap j5))], H⟩ ?_
 refine Au ?_
 obtain ⟨e0, e1⟩ := Ar hF
 subst e0
 subst e1
 exact yp (.tup [.agg (Ap j5), vi 0])
 rcases Ae hF with ⟨h11, hF⟩ | ⟨h11, hF⟩
 refine yT h11 ⟨L17, [B2, B6], H⟩ ?_
 obtain ⟨r12, c13, hF⟩ := Ab hF
 let B10 : EB := (4, [(.top, .int .i64 j3.Op_), (.top, .int .i64 j3.A_), (.top, .int .i64 j3.B_), (.top, .int .i64 j3.C_), (.top, .int .i64 (IntKind.wrap .i64 r12))])
 let E12 : EN := (32, .one .top (.int .i32 r12))
 refine Aj ⟨L17, [B2, B10], H⟩ ?_ ?_
 refine yr 1 ⟨L17 ++ [E11], [B2, B6], H⟩ ?_
 refine Ai ⟨L17 ++ [E11, E12], [B2, B6], H⟩ (yc (some 32) true false (⟨L17 ++ [E11], [B2, B6], H⟩ : St) (Uo H c13)) ?_
 refine yr 3 ⟨L17 ++ [E11, E12, (33, vi (IntKind.wrap .i64 r12)), (34, vl 4 4)], [B2, B10], H⟩ ?_
 exact ye
 exact ⟨(T_instr_Instr.mk j3.Op_ j3.A_ j3.B_ j3.C_ (IntKind.wrap .i64 r12)), hF, (by kernel_rfl)⟩
 refine yF h11 ⟨L18, [B2, B6], H⟩ ?_
 refine Ag ?_
 refine ysg ⟨L18 ++ [(35, vb (r1 == 2))], [B2, B6], H⟩ ?_
 refine As (α := (Bool)) (fun x => (⟨L18 ++ [(35, vb x)], [B2, B6], H⟩ : St)) (fun x => Ef p0 j3 r1 x = some (ra, rb)) ?_ ?_
 rintro j14 hF
 replace hF : Ef p0 j3 r1 j14 = some (ra, rb) := hF
 unfold Ef at hF
 refine As (α := (T_instr_Instr)) (fun x => (⟨L17, [B2, (4, (Ap x))], H⟩ : St)) (fun x => Ec p0 x = some (ra, rb)) ?_ ?_
 rintro j15 hF
 replace hF : Ec p0 j15 = some (ra, rb) := hF
 unfold Ec at hF
 exact ⟨j15, hF, (by kernel_rfl)⟩
 rcases Ae hF with ⟨h16, hF⟩ | ⟨h16, hF⟩
 refine yT h16 ⟨L17, [B2, B6], H⟩ ?_
 refine yg ⟨L17, [B2, (4, [(.top, .int .i64 j3.Op_), (.top, .int .i64 j3.A_), (.top, .int .i64 j3.B_), (.top, .int .i64 j3.C_), (.top, .int .i64 (IntKind.wrap .i64 (A9 .and .u32 p0 65535)))])], H⟩ ?_
 exact ⟨(T_instr_Instr.mk j3.Op_ j3.A_ j3.B_ j3.C_ (IntKind.wrap .i64 (A9 .and .u32 p0 65535))), hF, (by kernel_rfl)⟩
 refine yF h16 ⟨L18, [B2, B6], H⟩ ?_
 refine ysg ⟨L18 ++ [(43, vb (r1 == 7))], [B2, B6], H⟩ ?_
 refine As (α := (T_instr_Instr)) (fun x => (⟨L17, [B2, (4, (Ap x))], H⟩ : St)) (fun x => Ed p0 x = some (ra, rb)) ?_ ?_
 rintro j17 hF
 replace hF : Ed p0 j17 = some (ra, rb) := hF
 unfold Ed at hF
 exact ⟨j17, hF, (by kernel_rfl)⟩
 rcases Ae hF with ⟨h18, hF⟩ | ⟨h18, hF⟩
 refine yT h18 ⟨L17, [B2, B6], H⟩ ?_
 obtain ⟨r19, c20, hF⟩ := Ab hF
 let B13 : EB := (4, [(.top, .int .i64 j3.Op_), (.top, .int .i64 j3.A_), (.top, .int .i64 j3.B_), (.top, .int .i64 j3.C_), (.top, .int .i64 (IntKind.wrap .i64 r19))])
 let E15 : EN := (46, .one .top (.int .i32 r19))
 refine Aj ⟨L17, [B2, B13], H⟩ ?_ ?_
 refine yr 1 ⟨L17 ++ [E14], [B2, B6], H⟩ ?_
 refine Ai ⟨L17 ++ [E14, E15], [B2, B6], H⟩ (yc (some 46) true false (⟨L17 ++ [E14], [B2, B6], H⟩ : St) (Uo H c20)) ?_
 refine yr 3 ⟨L17 ++ [E14, E15, (47, vi (IntKind.wrap .i64 r19)), (48, vl 4 4)], [B2, B13], H⟩ ?_
 exact ye
 exact ⟨(T_instr_Instr.mk j3.Op_ j3.A_ j3.B_ j3.C_ (IntKind.wrap .i64 r19)), hF, (by kernel_rfl)⟩
 refine yF h18 ⟨L18, [B2, B6], H⟩ ?_
 refine ysg ⟨L17 ++ [(49, vb (r1 == 5))], [B2, B6], H⟩ ?_
 refine As (α := (T_instr_Instr)) (fun x => (⟨L17, [B2, (4, (Ap x))], H⟩ : St)) (fun x => Ee p0 x = some (ra, rb)) ?_ ?_
 rintro j21 hF
 replace hF : Ee p0 j21 = some (ra, rb) := hF
 unfold Ee at hF
 exact ⟨j21, hF, (by kernel_rfl)⟩
 rcases Ae hF with ⟨h22, hF⟩ | ⟨h22, hF⟩
 refine yT h22 ⟨L17, [B2, B6], H⟩ ?_
 refine yg ⟨L17, [B2, (4, [(.top, .int .i64 j3.Op_), (.top, .int .i64 j3.A_), (.top, .int .i64 j3.B_), (.top, .int .i64 (IntKind.wrap .i64 (A9 .and .u32 p0 15))), (.top, .int .i64 j3.Imm_)])], H⟩ ?_
 exact ⟨(T_instr_Instr.mk j3.Op_ j3.A_ j3.B_ (IntKind.wrap .i64 (A9 .and .u32 p0 15)) j3.Imm_), hF, (by kernel_rfl)⟩
 refine yF h22 ⟨L17, [B2, B6], H⟩ ?_
 refine Ao ?_
 exact ⟨j3, hF, (by kernel_rfl)⟩
 rcases Ae hF with ⟨h23, hF⟩ | ⟨h23, hF⟩
 refine yT h23 ⟨L18 ++ [(35, vb (r1 == 2))], [B2, B6], H⟩ ?_
 refine Ao ?_
 exact ⟨(r1 == 2), hF, (by kernel_rfl)⟩
 refine yF h23 ⟨L18, [B2, B6], H⟩ ?_
 refine ysg ⟨L18 ++ [(35, vb (r1 == 4))], [B2, B6], H⟩ ?_
 refine As (α := (Bool)) (fun x => (⟨L18 ++ [(35, vb x)], [B2, B6], H⟩ : St)) (fun x => Eg p0 j3 r1 x = some (ra, rb)) ?_ ?_
 rintro j24 hF
 replace hF : Eg p0 j3 r1 j24 = some (ra, rb) := hF
 unfold Eg at hF
 exact ⟨j24, hF, (by kernel_rfl)⟩
 rcases Ae hF with ⟨h25, hF⟩ | ⟨h25, hF⟩
 refine yT h25 ⟨L18 ++ [(35, vb (r1 == 4))], [B2, B6], H⟩ ?_
 refine Ao ?_
 exact ⟨(r1 == 4), hF, (by kernel_rfl)⟩
 refine yF h25 ⟨L18, [B2, B6], H⟩ ?_
 refine yg ⟨L18 ++ [(35, vb (r1 == 8))], [B2, B6], H⟩ ?_
 exact ⟨(r1 == 8), hF, (by kernel_rfl)⟩
 rcases Ae hF with ⟨h26, hF⟩ | ⟨h26, hF⟩
 refine yT h26 ⟨L18 ++ [(28, vb (r1 == 1))], [B2, B6], H⟩ ?_
 refine Ao ?_
 exact ⟨(r1 == 1), hF, (by kernel_rfl)⟩
 refine yF h26 ⟨L18, [B2, B6], H⟩ ?_
 refine yg ⟨L18 ++ [(28, vb (r1 == 3))], [B2, B6], H⟩ ?_
 exact ⟨(r1 == 3), hF, (by kernel_rfl)⟩
 rcases Ae hF with ⟨h27, hF⟩ | ⟨h27, hF⟩
 refine yT h27 ⟨L19, [B2, B3], H⟩ ?_
 refine yg ⟨L19, [B2, (4, [(.top, .int .i64 (IntKind.wrap .i64 (Int.fdiv p0 (2 ^ 24)))), (.top, .int .i64 (IntKind.wrap .i64 (A9 .and .u32 (Int.fdiv p0 (2 ^ 20)) 15))), (.top, .int .i64 (IntKind.wrap .i64 (A9 .and .u32 (Int.fdiv p0 (2 ^ 16)) 15))), (.top, .int .i64 0), (.top, .int .i64 0)])], H⟩ ?_
 exact ⟨(T_instr_Instr.mk (IntKind.wrap .i64 (Int.fdiv p0 (2 ^ 24))) (IntKind.wrap .i64 (A9 .and .u32 (Int.fdiv p0 (2 ^ 20)) 15)) (IntKind.wrap .i64 (A9 .and .u32 (Int.fdiv p0 (2 ^ 16)) 15)) 0 0), hF, (by kernel_rfl)⟩
 refine yF h27 ⟨L19, [B2, B3], H⟩ ?_
 refine Ao ?_
 exact ⟨(T_instr_Instr.mk (IntKind.wrap .i64 (Int.fdiv p0 (2 ^ 24))) 0 0 0 0), hF, (by kernel_rfl)⟩
noncomputable def Bh (H : Ah) (p0 : Ptr) (p1 : Int) (p2 : Int) : Option (Ah) :=
  (p0).bnd fun i1 o2 =>
  Af (Bf H i1 o2) fun x4 =>
  Af (ga x4.R_ p1) fun v6 =>
  Af (sa x4.R_ p1 p2) fun v8 =>
  bnd (Bl H i1 o2 (T_cpu_Cpu.mk v8 x4.PC_ x4.EPC_ x4.Cause_ x4.State_ x4.Why_ x4.Steps_ x4.Taken_ x4.Out_ x4.setup_ x4.input_)) fun H10 =>
  bnd (Bl H10 i1 o2 (T_cpu_Cpu.mk v8 (IntKind.wrap .u32 (x4.PC_ + 4)) x4.EPC_ x4.Cause_ x4.State_ x4.Why_ x4.Steps_ x4.Taken_ x4.Out_ x4.setup_ x4.input_)) fun H13 =>
  some H13
theorem Bi (H : Ah) {p0 : Ptr} {p1 : Int} {p2 : Int} {Hr : Ah} (hF : Bh H p0 p1 p2 = some Hr) : evS X 122 [.one .top (Ptr.av p0), .one .top (.int .i64 p1), .one .top (.int .u32 p2)] H = some (.tup [], Hr) := by
 refine yf Try.func122 false ⟨[(0, vp p0), (1, vi p1), (2, vu p2)], [], H⟩ ?_
 unfold Bh at hF
 refine Ag ?_
 obtain ⟨i1, o2, h3, hF⟩ := Bu hF
 let E3 : EN := (10, vo i1 o2)
 let L4 : List EN := [(0, vo i1 o2), (12, vo i1 o2), (13, vo i1 o2), (14, vo i1 (o2 + 16))]
 let L5 : List EN := [(0, vo i1 o2), (1, vi p1), (2, vu p2), (6, vo i1 o2), (7, vi p1), (8, vu p2), (9, vo i1 o2)]
 let L6 : List EN := L5 ++ [E3, (11, vo i1 (o2 + Int.toNat p1))]
 obtain ⟨x4, V5, hF⟩ := Ab hF
 replace V5 := Bb V5
 let L7 : List EN := L4 ++ [(15, vu x4.PC_), (16, vu (IntKind.wrap .u32 (x4.PC_ + 4))), (17, vo i1 o2), (18, vo i1 (o2 + 16))]
 obtain ⟨v6, h7, hF⟩ := Ab hF
 obtain ⟨v8, h9, hF⟩ := Ab hF
 let W2 : Ah := Dt H i1 o2 (arM .u32 16 v8 ++ [(.top, .int .u32 x4.PC_), (.top, .int .u32 x4.EPC_), (.top, .int .u32 x4.Cause_), (.top, .int .i64 x4.State_), (.top, .int .i64 x4.Why_), (.top, .int .i64 x4.Steps_), (.top, .int .i64 x4.Taken_), ((.own 1), .sl 2 (List.map Ad x4.Out_)), (.top, .int .u32 x4.setup_.Entry_), (.top, .int .u32 x4.setup_.Vector_), (.top, .int .u32 x4.setup_.Guard_), (.top, .int .u32 x4.setup_.Limit_), ((.own 1), .sl 1 (List.map (eI .i32) x4.input_))])
 obtain ⟨H10, h11, hF⟩ := Cl hF
 let W1 : Ah := Dt H10 i1 o2 (arM .u32 16 v8 ++ [(.top, .int .u32 (IntKind.wrap .u32 (x4.PC_ + 4))), (.top, .int .u32 x4.EPC_), (.top, .int .u32 x4.Cause_), (.top, .int .i64 x4.State_), (.top, .int .i64 x4.Why_), (.top, .int .i64 x4.Steps_), (.top, .int .i64 x4.Taken_), ((.own 1), .sl 2 (List.map Ad x4.Out_)), (.top, .int .u32 x4.setup_.Entry_), (.top, .int .u32 x4.setup_.Vector_), (.top, .int .u32 x4.setup_.Guard_), (.top, .int .u32 x4.setup_.Limit_), ((.own 1), .sl 1 (List.map (eI .i32) x4.input_))])
 have V12 : Ct H10 i1 o2 29 = some (Bz (T_cpu_Cpu.mk v8 x4.PC_ x4.EPC_ x4.Cause_ x4.State_ x4.Why_ x4.Steps_ x4.Taken_ x4.Out_ x4.setup_ x4.input_)) := by rw [← h11]; exact Bv V5 rfl
 refine Aj ⟨[(0, vo i1 o2)], [], H10⟩ ?_ ?_
 refine yr 3 ⟨[(0, vp p0), (1, vi p1), (2, vu p2), (6, vp p0), (7, vi p1), (8, vu p2)], [], H⟩ ?_ (h := (by generalize p0 = qp0; cases qp0 <;> kernel_rfl))
 refine Bd (congrArg (fun q => (⟨[(0, vp q), (1, vi p1), (2, vu p2), (6, vp q), (7, vi p1), (8, vu p2)], [], H⟩ : St)) h3) ?_
 refine yr 1 ⟨L5, [], H⟩ ?_
 refine yr 1 ⟨L5 ++ [E3], [], H⟩ ?_
 refine Ai ⟨L6, [], H⟩ (Lb (X := X) (⟨L5 ++ [E3], [], H⟩ : St) 46 35 16 h7 i1 o2 (some 11) (by kernel_rfl) (by kernel_rfl) (by kernel_rfl) (by kernel_rfl)) ?_
 refine Ai ⟨L6, [], W2⟩ (pS (X := X) (lc := []) (h2 := W2) (⟨L6, [], H⟩ : St) 35 16 h9 V5 0 (fun q => .int .u32 q) (fun _ => rfl) (by kernel_rfl) (by kernel_rfl) (by kernel_rfl) (by kernel_rfl) (by kernel_rfl) (by kernel_rfl)) ?_
 refine Bd (congrArg (fun q => (⟨L6, [], q⟩ : St)) h11) ?_
 exact ye
 obtain ⟨H13, h14, hF⟩ := Cl hF
 have V15 : Ct H13 i1 o2 29 = some (Bz (T_cpu_Cpu.mk v8 (IntKind.wrap .u32 (x4.PC_ + 4)) x4.EPC_ x4.Cause_ x4.State_ x4.Why_ x4.Steps_ x4.Taken_ x4.Out_ x4.setup_ x4.input_)) := by rw [← h14]; exact Bv V12 rfl
 refine Aj ⟨[], [], H13⟩ ?_ ?_
 refine yr 3 ⟨L4, [], H10⟩ ?_
 refine Ai ⟨L4 ++ [(15, vu x4.PC_)], [], H10⟩ (yd (X := X) (⟨L4, [], H10⟩ : St) 35 V12 16 1 false (vu x4.PC_) (some 15)) ?_
 refine yr 3 ⟨L7, [], H10⟩ ?_
 refine Ai ⟨L7, [], W1⟩ (G7 (X := X) (lc := []) (h2 := W1) (⟨L7, [], H10⟩ : St) 35 V12 16 1 (vu (IntKind.wrap .u32 (x4.PC_ + 4))) (by kernel_rfl) (by kernel_rfl) (by kernel_rfl) (by kernel_rfl) (by kernel_rfl) (by kernel_rfl) (Cd V12 (Nat.le_of_ble_eq_true rfl)) (by kernel_rfl)) ?_
 refine Bd (congrArg (fun q => (⟨L7, [], q⟩ : St)) h14) ?_
 exact ye
 obtain e0 := Am hF
 subst e0
 exact yi (vN)
noncomputable def Kb (j8 : Int) : Option (Int × Bool) :=
  some (j8, true)
noncomputable def Ng  (p0 : Int) (p1 : Int) : Option (Int × Bool) :=
  if (p1 == 0) = true then (some (0, false))
  else (if (p1 == (-1)) = true then (some ((IntKind.wrap .i32 (0 - p0)), true))
  else (Af (Zo .i32 p0 p1) fun v3 =>
  Af (Rm .i32 p0 p1) fun v5 =>
  if ((v5 != 0) && ((decide (p0 < 0)) != (decide (p1 < 0)))) = true then (Kb (IntKind.wrap .i32 (v3 - 1)))
  else (Kb v3)))
theorem eE (H : Ah) {p0 : Int} {p1 : Int} {ra : Int} {rb : Bool} (hF : Ng p0 p1 = some (ra, rb)) : evS X 136 [.one .top (.int .i32 p0), .one .top (.int .i32 p1)] H = some (.tup [.one .top (.int .i32 ra), .one .top (.bool rb)], H) := by
 let E1 : EN := (7, .one .top (.int .i32 p1))
 let E2 : EN := (0, .one .top (.int .i32 p0))
 let E4 : EN := (14, .one .top (.int .i32 p0))
 let E5 : EN := (15, .one .top (.int .i32 p1))
 let L7 : List EN := [E2, (1, .one .top (.int .i32 p1))]
 refine yf Try.func136 true ⟨L7, [], H⟩ ?_
 unfold Ng at hF
 refine ysg ⟨L7, [], H⟩ ?_
 refine Ag ?_
 refine ysg ⟨L7 ++ [E1], [], H⟩ ?_
 refine Bt ?_
 refine ysg ⟨L7 ++ [E1, (8, vb (p1 == 0))], [], H⟩ ?_
 rcases Ae hF with ⟨h1, hF⟩ | ⟨h1, hF⟩
 refine yT h1 ⟨[], [], H⟩ ?_
 refine ysg ⟨[(4, .one .top (.int .i32 0)), (5, vF)], [], H⟩ ?_
 refine Au ?_
 obtain ⟨e0, e1⟩ := Ar hF
 subst e0
 subst e1
 exact yp (.tup [.one .top (.int .i32 0), vF])
 refine yF h1 ⟨L7 ++ [E1], [], H⟩ ?_
 refine ysg ⟨L7 ++ [(10, vb (p1 == (-1)))], [], H⟩ ?_
 rcases Ae hF with ⟨h2, hF⟩ | ⟨h2, hF⟩
 refine yT h2 ⟨[E2], [], H⟩ ?_
 refine ysg ⟨[(4, .one .top (.int .i32 (IntKind.wrap .i32 (0 - p0)))), (5, vT)], [], H⟩ ?_
 refine Au ?_
 obtain ⟨e0, e1⟩ := Ar hF
 subst e0
 subst e1
 exact yp (.tup [.one .top (.int .i32 (IntKind.wrap .i32 (0 - p0))), vT])
 refine yF h2 ⟨L7, [], H⟩ ?_
 refine Ao ?_
 refine Ag ?_
 obtain ⟨v3, h4, hF⟩ := Ab hF
 let E3 : EN := (6, .one .top (.int .i32 v3))
 let E6 : EN := (16, .one .top (.int .i32 v3))
 let L8 : List EN := L7 ++ [E3, (17, .one .top (.int .i32 p0)), (18, .one .top (.int .i32 p1))]
 refine Aj ⟨L7 ++ [E3], [], H⟩ ?_ ?_
 refine yr 2 ⟨L7 ++ [E4, E5], [], H⟩ ?_
 refine Ai ⟨L7 ++ [E4, E5, E6], [], H⟩ (Lx (⟨L7 ++ [E4, E5], [], H⟩ : St) .i32 h4 (mC (P := X.P) (ty := 21) (x := (.tmp 14)) (y := (.tmp 15)) (m := .top) (m' := .top) (k := .i32) (a := p0) (b := p1)) (some 16) (by kernel_rfl) (by kernel_rfl)) ?_
 refine yr 1 ⟨L7 ++ [E3, E4, E5, E6], [], H⟩ ?_
 exact ye
 refine Ag ?_
 refine Ag ?_
 obtain ⟨v5, h6, hF⟩ := Ab hF
 let L9 : List EN := L8 ++ [(19, .one .top (.int .i32 v5))]
 refine Aj ⟨[E3, (27, vb ((v5 != 0) && ((decide (p0 < 0)) != (decide (p1 < 0)))))], [], H⟩ ?_ ?_
 refine yr 2 ⟨L8, [], H⟩ ?_
 refine Ai ⟨L9, [], H⟩ (Lx (⟨L8, [], H⟩ : St) .i32 h6 (bW (P := X.P) (ty := 21) (x := (.tmp 17)) (y := (.tmp 18)) (m := .top) (m' := .top) (k := .i32) (a := p0) (b := p1)) (some 19) (by kernel_rfl) (by kernel_rfl)) ?_
 refine yr 2 ⟨L9 ++ [(20, vb (v5 != 0)), (21, vb (v5 != 0))], [], H⟩ ?_
 rcases Ax (v5 != 0) with h7 | h7
 refine Bd (congrArg (fun q => (⟨L9 ++ [(20, vb q), (21, vb q)], [], H⟩ : St)) h7) ?_
 refine yr 6 ⟨L9 ++ [(20, vT), (21, vT), (22, .one .top (.int .i32 p0)), (23, vb (decide (p0 < 0))), (24, .one .top (.int .i32 p1)), (25, vb (decide (p1 < 0))), (26, vb ((decide (p0 < 0)) != (decide (p1 < 0)))), (27, vb ((decide (p0 < 0)) != (decide (p1 < 0))))], [], H⟩ ?_
 refine Bw (congrArg (fun q0 => (⟨[E3, (27, vb q0)], [], H⟩ : St)) (show ((decide (p0 < 0)) != (decide (p1 < 0))) = ((v5 != 0) && ((decide (p0 < 0)) != (decide (p1 < 0)))) by simp [h7])) ?_
 exact ye
 refine Bd (congrArg (fun q => (⟨L9 ++ [(20, vb q), (21, vb q)], [], H⟩ : St)) h7) ?_
 refine yr 6 ⟨L9 ++ [(20, vF), (21, vF), (22, vN), (23, vN), (24, vN), (25, vN), (26, vN), (27, vF)], [], H⟩ ?_
 refine Bw (congrArg (fun q0 => (⟨[E3, (27, vb q0)], [], H⟩ : St)) (show false = ((v5 != 0) && ((decide (p0 < 0)) != (decide (p1 < 0)))) by simp [h7])) ?_
 exact ye
 refine As (α := (Int)) (fun x => (⟨[(6, .one .top (.int .i32 x))], [], H⟩ : St)) (fun x => Kb x = some (ra, rb)) ?_ ?_
 rintro j8 hF
 replace hF : Kb j8 = some (ra, rb) := hF
 unfold Kb at hF
 refine ysg ⟨[(4, .one .top (.int .i32 j8)), (5, vT)], [], H⟩ ?_
 refine Au ?_
 obtain ⟨e0, e1⟩ := Ar hF
 subst e0
 subst e1
 exact yp (.tup [.one .top (.int .i32 j8), vT])
 rcases Ae hF with ⟨h9, hF⟩ | ⟨h9, hF⟩
 refine yT h9 ⟨[E3], [], H⟩ ?_
 refine yg ⟨[(6, .one .top (.int .i32 (IntKind.wrap .i32 (v3 - 1))))], [], H⟩ ?_
 exact ⟨(IntKind.wrap .i32 (v3 - 1)), hF, (by kernel_rfl)⟩
 refine yF h9 ⟨[E3], [], H⟩ ?_
 refine Ao ?_
 exact ⟨v3, hF, (by kernel_rfl)⟩
noncomputable def Kc (j6 : Int) : Option (Int × Bool) :=
  some (j6, true)
noncomputable def Nh  (p0 : Int) (p1 : Int) : Option (Int × Bool) :=
  if (p1 == 0) = true then (some (0, false))
  else (if (p1 == (-1)) = true then (some (0, true))
  else (Af (Rm .i32 p0 p1) fun v3 =>
  if ((v3 != 0) && ((decide (v3 < 0)) != (decide (p1 < 0)))) = true then (Kc (IntKind.wrap .i32 (v3 + p1)))
  else (Kc v3)))
theorem eF (H : Ah) {p0 : Int} {p1 : Int} {ra : Int} {rb : Bool} (hF : Nh p0 p1 = some (ra, rb)) : evS X 137 [.one .top (.int .i32 p0), .one .top (.int .i32 p1)] H = some (.tup [.one .top (.int .i32 ra), .one .top (.bool rb)], H) := by
 let E1 : EN := (1, .one .top (.int .i32 p1))
 let E2 : EN := (7, .one .top (.int .i32 p1))
 let E3 : EN := (4, .one .top (.int .i32 0))
 let E4 : EN := (12, .one .top (.int .i32 p0))
 let E5 : EN := (13, .one .top (.int .i32 p1))
 let L8 : List EN := [(0, .one .top (.int .i32 p0)), E1]
 refine yf Try.func137 true ⟨L8, [], H⟩ ?_
 unfold Nh at hF
 refine ysg ⟨L8, [], H⟩ ?_
 refine Ag ?_
 refine ysg ⟨L8 ++ [E2], [], H⟩ ?_
 refine Bt ?_
 refine ysg ⟨L8 ++ [E2, (8, vb (p1 == 0))], [], H⟩ ?_
 rcases Ae hF with ⟨h1, hF⟩ | ⟨h1, hF⟩
 refine yT h1 ⟨[], [], H⟩ ?_
 refine ysg ⟨[E3, (5, vF)], [], H⟩ ?_
 refine Au ?_
 obtain ⟨e0, e1⟩ := Ar hF
 subst e0
 subst e1
 exact yp (.tup [.one .top (.int .i32 0), vF])
 refine yF h1 ⟨L8 ++ [E2], [], H⟩ ?_
 refine ysg ⟨L8 ++ [(10, vb (p1 == (-1)))], [], H⟩ ?_
 rcases Ae hF with ⟨h2, hF⟩ | ⟨h2, hF⟩
 refine yT h2 ⟨[], [], H⟩ ?_
 refine ysg ⟨[E3, (5, vT)], [], H⟩ ?_
 refine Au ?_
 obtain ⟨e0, e1⟩ := Ar hF
 subst e0
 subst e1
 exact yp (.tup [.one .top (.int .i32 0), vT])
 refine yF h2 ⟨L8, [], H⟩ ?_
 refine Ao ?_
 refine Ag ?_
 obtain ⟨v3, h4, hF⟩ := Ab hF
 let E6 : EN := (14, .one .top (.int .i32 v3))
 let E7 : EN := (6, .one .top (.int .i32 v3))
 let L9 : List EN := [E1, E7]
 let L10 : List EN := L9 ++ [(15, .one .top (.int .i32 v3))]
 refine Aj ⟨L9, [], H⟩ ?_ ?_
 refine yr 2 ⟨L8 ++ [E4, E5], [], H⟩ ?_
 refine Ai ⟨L8 ++ [E4, E5, E6], [], H⟩ (Lx (⟨L8 ++ [E4, E5], [], H⟩ : St) .i32 h4 (bW (P := X.P) (ty := 21) (x := (.tmp 12)) (y := (.tmp 13)) (m := .top) (m' := .top) (k := .i32) (a := p0) (b := p1)) (some 14) (by kernel_rfl) (by kernel_rfl)) ?_
 refine yr 1 ⟨L8 ++ [E7, E4, E5, E6], [], H⟩ ?_
 exact ye
 refine Ag ?_
 refine yso ⟨L9 ++ [(23, vb ((v3 != 0) && ((decide (v3 < 0)) != (decide (p1 < 0)))))], [], H⟩ ?_ ?_
 refine yr 3 ⟨L10 ++ [(16, vb (v3 != 0)), (17, vb (v3 != 0))], [], H⟩ ?_
 rcases Ax (v3 != 0) with h5 | h5
 refine Bd (congrArg (fun q => (⟨L10 ++ [(16, vb q), (17, vb q)], [], H⟩ : St)) h5) ?_
 refine yr 6 ⟨L10 ++ [(16, vT), (17, vT), (18, .one .top (.int .i32 v3)), (19, vb (decide (v3 < 0))), (20, .one .top (.int .i32 p1)), (21, vb (decide (p1 < 0))), (22, vb ((decide (v3 < 0)) != (decide (p1 < 0)))), (23, vb ((decide (v3 < 0)) != (decide (p1 < 0))))], [], H⟩ ?_
 refine Bw (congrArg (fun q0 => (⟨L9 ++ [(23, vb q0)], [], H⟩ : St)) (show ((decide (v3 < 0)) != (decide (p1 < 0))) = ((v3 != 0) && ((decide (v3 < 0)) != (decide (p1 < 0)))) by simp [h5])) ?_
 exact ye
 refine Bd (congrArg (fun q => (⟨L10 ++ [(16, vb q), (17, vb q)], [], H⟩ : St)) h5) ?_
 refine yr 6 ⟨L10 ++ [(16, vF), (17, vF), (18, vN), (19, vN), (20, vN), (21, vN), (22, vN), (23, vF)], [], H⟩ ?_
 refine Bw (congrArg (fun q0 => (⟨L9 ++ [(23, vb q0)], [], H⟩ : St)) (show false = ((v3 != 0) && ((decide (v3 < 0)) != (decide (p1 < 0)))) by simp [h5])) ?_
 exact ye
 refine As (α := (Int)) (fun x => (⟨[(6, .one .top (.int .i32 x))], [], H⟩ : St)) (fun x => Kc x = some (ra, rb)) ?_ ?_
 rintro j6 hF
 replace hF : Kc j6 = some (ra, rb) := hF
 unfold Kc at hF
 refine ysg ⟨[(4, .one .top (.int .i32 j6)), (5, vT)], [], H⟩ ?_
 refine Au ?_
 obtain ⟨e0, e1⟩ := Ar hF
 subst e0
 subst e1
 exact yp (.tup [.one .top (.int .i32 j6), vT])
 rcases Ae hF with ⟨h7, hF⟩ | ⟨h7, hF⟩
 refine yT h7 ⟨L9, [], H⟩ ?_
 refine yg ⟨[(6, .one .top (.int .i32 (IntKind.wrap .i32 (v3 + p1))))], [], H⟩ ?_
 exact ⟨(IntKind.wrap .i32 (v3 + p1)), hF, (by kernel_rfl)⟩
 refine yF h7 ⟨[E7], [], H⟩ ?_
 refine Ao ?_
 exact ⟨v3, hF, (by kernel_rfl)⟩
noncomputable def C3 (H : Ah) (p0 : Ptr) (p1 : Int) : Option (Ah) :=
  (p0).bnd fun i1 o2 =>
  Af (Bf H i1 o2) fun x4 =>
  if (decide (x4.PC_ < x4.setup_.Guard_)) = true then (Af (Bq H (Ptr.at i1 o2) 111) fun H8 =>
  some H8)
  else (bnd (Bl H i1 o2 (T_cpu_Cpu.mk x4.R_ x4.setup_.Vector_ x4.PC_ p1 x4.State_ x4.Why_ x4.Steps_ x4.Taken_ x4.Out_ x4.setup_ x4.input_)) fun H9 =>
  some H9)
theorem F2 (H : Ah) {p0 : Ptr} {p1 : Int} {Hr : Ah} (hF : C3 H p0 p1 = some Hr) : evS X 127 [.one .top (Ptr.av p0), .one .top (.int .u32 p1)] H = some (.tup [], Hr) := by
 refine yf Try.func127 false ⟨[(0, vp p0), (1, vu p1)], [], H⟩ ?_
 unfold C3 at hF
 refine Ag ?_
 refine Ag ?_
 obtain ⟨i1, o2, h3, hF⟩ := Bu hF
 let E6 : EN := (0, vo i1 o2)
 let E7 : EN := (14, vo i1 o2)
 let E8 : EN := (16, vo i1 o2)
 let E9 : EN := (17, vo i1 o2)
 let E10 : EN := (26, vo i1 (o2 + 24))
 let E12 : EN := (29, vo i1 o2)
 let E13 : EN := (31, vo i1 o2)
 let E14 : EN := (33, vo i1 o2)
 let L15 : List EN := [E6, (1, vu p1)]
 let L16 : List EN := L15 ++ [E8, E9, (18, vo i1 o2), (19, vo i1 o2)]
 let L17 : List EN := L16 ++ [(20, vo i1 o2), (21, vo i1 (o2 + 16))]
 let L18 : List EN := [(23, vu p1), (24, vo i1 o2), (25, vo i1 o2)]
 let L22 : List EN := L15 ++ [(4, vo i1 o2), (5, vo i1 o2), (6, vo i1 (o2 + 16))]
 let L25 : List EN := L17 ++ L18 ++ [E10, (27, vo i1 (o2 + 25))]
 obtain ⟨x4, V5, hF⟩ := Ab hF
 replace V5 := Bb V5
 let W1 : Ah := Dt H i1 o2 (arM .u32 16 x4.R_ ++ [(.top, .int .u32 x4.PC_), (.top, .int .u32 x4.PC_), (.top, .int .u32 x4.Cause_), (.top, .int .i64 x4.State_), (.top, .int .i64 x4.Why_), (.top, .int .i64 x4.Steps_), (.top, .int .i64 x4.Taken_), ((.own 1), .sl 2 (List.map Ad x4.Out_)), (.top, .int .u32 x4.setup_.Entry_), (.top, .int .u32 x4.setup_.Vector_), (.top, .int .u32 x4.setup_.Guard_), (.top, .int .u32 x4.setup_.Limit_), ((.own 1), .sl 1 (List.map (eI .i32) x4.input_))])
 let W2 : Ah := Dt H i1 o2 (arM .u32 16 x4.R_ ++ [(.top, .int .u32 x4.PC_), (.top, .int .u32 x4.PC_), (.top, .int .u32 p1), (.top, .int .i64 x4.State_), (.top, .int .i64 x4.Why_), (.top, .int .i64 x4.Steps_), (.top, .int .i64 x4.Taken_), ((.own 1), .sl 2 (List.map Ad x4.Out_)), (.top, .int .u32 x4.setup_.Entry_), (.top, .int .u32 x4.setup_.Vector_), (.top, .int .u32 x4.setup_.Guard_), (.top, .int .u32 x4.setup_.Limit_), ((.own 1), .sl 1 (List.map (eI .i32) x4.input_))])
 let W3 : Ah := Dt H i1 o2 (arM .u32 16 x4.R_ ++ [(.top, .int .u32 x4.setup_.Vector_), (.top, .int .u32 x4.PC_), (.top, .int .u32 p1), (.top, .int .i64 x4.State_), (.top, .int .i64 x4.Why_), (.top, .int .i64 x4.Steps_), (.top, .int .i64 x4.Taken_), ((.own 1), .sl 2 (List.map Ad x4.Out_)), (.top, .int .u32 x4.setup_.Entry_), (.top, .int .u32 x4.setup_.Vector_), (.top, .int .u32 x4.setup_.Guard_), (.top, .int .u32 x4.setup_.Limit_), ((.own 1), .sl 1 (List.map (eI .i32) x4.input_))])
 let E4 : EN := (13, vb (decide (x4.PC_ < x4.setup_.Guard_)))
 let E5 : EN := (12, vu x4.setup_.Guard_)
 let E11 : EN := (28, vu x4.setup_.Vector_)
 let L19 : List EN := L17 ++ [(22, vu x4.PC_)] ++ L18 ++ [E10, (27, vo i1 (o2 + 25))]
 let L20 : List EN := L19 ++ [E11, E12, (30, vo i1 (o2 + 17))]
 let L21 : List EN := L20 ++ [E13, (32, vo i1 (o2 + 18))]
 let L23 : List EN := L21 ++ [E14, (34, vo i1 (o2 + 16))]
 let L24 : List EN := L22 ++ [(7, vu x4.PC_), (8, vo i1 o2)]
 let L26 : List EN := L24 ++ [(9, vo i1 o2), (10, vo i1 (o2 + 24)), (11, vo i1 (o2 + 26))]
 refine Bs (.take 0 (.take 1 (.take 2 (.take 3 (.take 4 (.take 5 (.take 6 (.take 7 (.take 8 (.take 9 .done)))))))))) (by kernel_rfl) (⟨L15 ++ [E4], [], H⟩ : St) ?_ ?_
 refine Aq ⟨[(0, vp p0), (1, vu p1), (4, vp p0)], [], H⟩ (by generalize p0 = qp0; cases qp0 <;> kernel_rfl) ?_
 refine Fi (congrArg (fun q => (⟨[(0, vp q), (1, vu p1), (4, vp q)], [], H⟩ : St)) h3) ?_
 refine ydk 2 ⟨L22, [], H⟩ ?_
 refine Aq ⟨L22 ++ [(7, vu x4.PC_)], [], H⟩ (yd (X := X) (⟨L22, [], H⟩ : St) 35 V5 16 1 false (vu x4.PC_) (some 7)) ?_
 refine ydk 4 ⟨L26, [], H⟩ ?_
 refine Aq ⟨L26 ++ [E5], [], H⟩ (yd (X := X) (⟨L26, [], H⟩ : St) 35 V5 26 1 false (vu x4.setup_.Guard_) (some 12)) ?_
 refine ydt ⟨L26 ++ [E5, E4], [], H⟩ ?_
 exact yde
 rcases Ae hF with ⟨h6, hF⟩ | ⟨h6, hF⟩
 refine yT h6 ⟨[E6], [], H⟩ ?_
 refine Ag ?_
 obtain ⟨H8, c7, hF⟩ := Ab hF
 refine Aj ⟨[], [], H8⟩ ?_ ?_
 refine yr 1 ⟨[E6, E7], [], H⟩ ?_
 refine Ai ⟨[E6, E7, (15, vN)], [], H8⟩ (yc (some 15) false false (⟨[E6, E7], [], H⟩ : St) (Fj H c7)) ?_
 exact ye
 refine Au ?_
 obtain e0 := Am hF
 subst e0
 exact yi (vN)
 refine yF h6 ⟨L15, [], H⟩ ?_
 refine Ao ?_
 obtain ⟨H9, h10, hF⟩ := Cl hF
 have V11 : Ct H9 i1 o2 29 = some (Bz (T_cpu_Cpu.mk x4.R_ x4.setup_.Vector_ x4.PC_ p1 x4.State_ x4.Why_ x4.Steps_ x4.Taken_ x4.Out_ x4.setup_ x4.input_)) := by rw [← h10]; exact Bv V5 rfl
 let K27 : Sch := .take 13 (.take 14 (.last 15 (.take 16 (.take 17 (.last 18 (.take 19 (.take 20 (.last 21 .done))))))))
 refine Bs (.take 0 (.take 1 (.take 2 (.take 3 (.take 4 (.take 5 (.take 7 (.take 8 (.take 9 (.take 10 (.take 11 (.alt 6 (.last 12 K27) (.last 12 (.last 6 K27)))))))))))))) (by kernel_rfl) (⟨[], [], H9⟩ : St) ?_ ?_
 refine ydk 11 ⟨L25, [], H⟩ ?_
 refine kC (⟨L23, [], W3⟩ : St) ?_ ?_
 refine P4 ⟨L19, [], H⟩ (yd (X := X) (⟨L25, [], H⟩ : St) 35 V5 16 1 false (vu x4.PC_) (some 22)) ?_ ?_
 refine Cb ⟨L19 ++ [E11], [], H⟩ (yd (X := X) (⟨L19, [], H⟩ : St) 35 V5 25 1 false (vu x4.setup_.Vector_) (some 28)) ?_
 refine yqt ⟨L19 ++ [E11, E12], [], H⟩ ?_
 refine yqt ⟨L20, [], H⟩ ?_
 refine Cb ⟨L20, [], W1⟩ (G7 (X := X) (lc := []) (h2 := W1) (⟨L20, [], H⟩ : St) 35 V5 17 1 (vu x4.PC_) (by kernel_rfl) (by kernel_rfl) (by kernel_rfl) (by kernel_rfl) (by kernel_rfl) (by kernel_rfl) (Cd V5 (Nat.le_of_ble_eq_true rfl)) (by kernel_rfl)) ?_
 refine yqt ⟨L20 ++ [E13], [], W1⟩ ?_
 refine yqt ⟨L21, [], W1⟩ ?_
 refine Cb ⟨L21, [], W2⟩ (G7 (X := X) (lc := []) (h2 := W2) (⟨L21, [], W1⟩ : St) 35 (Bv V5 rfl) 18 1 (vu p1) (by kernel_rfl) (by kernel_rfl) (by kernel_rfl) (by kernel_rfl) (by kernel_rfl) (by kernel_rfl) (Lw V5 rfl (Nat.le_of_ble_eq_true rfl)) (by kernel_rfl)) ?_
 refine yqt ⟨L21 ++ [E14], [], W2⟩ ?_
 refine yqt ⟨L23, [], W2⟩ ?_
 refine Cb ⟨L23, [], W3⟩ (G7 (X := X) (lc := []) (h2 := W3) (⟨L23, [], W2⟩ : St) 35 (Bv V5 rfl) 16 1 (vu x4.setup_.Vector_) (by kernel_rfl) (by kernel_rfl) (by kernel_rfl) (by kernel_rfl) (by kernel_rfl) (by kernel_rfl) (Lw V5 rfl (Nat.le_of_ble_eq_true rfl)) (by kernel_rfl)) ?_
 exact yqe
 refine Cb ⟨L25 ++ [E11], [], H⟩ (yd (X := X) (⟨L25, [], H⟩ : St) 35 V5 25 1 false (vu x4.setup_.Vector_) (some 28)) ?_
 refine Cb ⟨L19 ++ [E11], [], H⟩ (yd (X := X) (⟨L25 ++ [E11], [], H⟩ : St) 35 V5 16 1 false (vu x4.PC_) (some 22)) ?_
 refine yqt ⟨L19 ++ [E11, E12], [], H⟩ ?_
 refine yqt ⟨L20, [], H⟩ ?_
 refine Cb ⟨L20, [], W1⟩ (G7 (X := X) (lc := []) (h2 := W1) (⟨L20, [], H⟩ : St) 35 V5 17 1 (vu x4.PC_) (by kernel_rfl) (by kernel_rfl) (by kernel_rfl) (by kernel_rfl) (by kernel_rfl) (by kernel_rfl) (Cd V5 (Nat.le_of_ble_eq_true rfl)) (by kernel_rfl)) ?_
 refine yqt ⟨L20 ++ [E13], [], W1⟩ ?_
 refine yqt ⟨L21, [], W1⟩ ?_
 refine Cb ⟨L21, [], W2⟩ (G7 (X := X) (lc := []) (h2 := W2) (⟨L21, [], W1⟩ : St) 35 (Bv V5 rfl) 18 1 (vu p1) (by kernel_rfl) (by kernel_rfl) (by kernel_rfl) (by kernel_rfl) (by kernel_rfl) (by kernel_rfl) (Lw V5 rfl (Nat.le_of_ble_eq_true rfl)) (by kernel_rfl)) ?_
 refine yqt ⟨L21 ++ [E14], [], W2⟩ ?_
 refine yqt ⟨L23, [], W2⟩ ?_
 refine Cb ⟨L23, [], W3⟩ (G7 (X := X) (lc := []) (h2 := W3) (⟨L23, [], W2⟩ : St) 35 (Bv V5 rfl) 16 1 (vu x4.setup_.Vector_) (by kernel_rfl) (by kernel_rfl) (by kernel_rfl) (by kernel_rfl) (by kernel_rfl) (by kernel_rfl) (Lw V5 rfl (Nat.le_of_ble_eq_true rfl)) (by kernel_rfl)) ?_
 exact yqe
 refine lZ (congrArg (fun q => (⟨L23, [], q⟩ : St)) h10) ?_
 kernel_rfl
 obtain e0 := Am hF
 subst e0
 exact yi (vN)
noncomputable def Dp (H : Ah) (p0 : Ptr) (p1 : T_instr_Instr) (j4 : Int) (j5 : Bool) : Option (Ah) :=
  if (!j5) = true then (Af (C3 H p0 3) fun H8 =>
  some H8)
  else (Af (Bh H p0 p1.A_ (IntKind.wrap .u32 j4)) fun H10 =>
  some H10)
noncomputable def Kd (H : Ah) (p0 : Ptr) (p1 : T_instr_Instr) (p2 : Int) (p3 : Int) : Option (Ah) :=
  Cc (Ng p2 p3) fun r1 r2 =>
  if (p1.Op_ == 10) = true then (Cc (Nh p2 p3) fun r12 r13 =>
  Dp H p0 p1 r12 r13)
  else (Dp H p0 p1 r1 r2)
theorem Up (H : Ah) {p0 : Ptr} {p1 : T_instr_Instr} {p2 : Int} {p3 : Int} {Hr : Ah} (hF : Kd H p0 p1 p2 p3 = some Hr) : evS X 123 [.one .top (Ptr.av p0), .agg (Ap p1), .one .top (.int .i32 p2), .one .top (.int .i32 p3)] H = some (.tup [], Hr) := by
 let E1 : Ptr → EN := fun z0 => (0, vp z0)
 let E2 : EN := (2, .one .top (.int .i32 p2))
 let E3 : EN := (3, .one .top (.int .i32 p3))
 let B4 : EB := (5, (Ap p1))
 let E6 : EN := (11, .one .top (.int .i32 p2))
 let E7 : EN := (12, .one .top (.int .i32 p3))
 let E11 : EN := (20, .one .top (.int .i32 p2))
 let E12 : EN := (21, .one .top (.int .i32 p3))
 let L14 : Ptr → List EN := fun z0 => [(E1 z0), E2, E3, (5, vl 5 0)]
 let L15 : Ptr → List EN := fun z0 => [(E1 z0), (5, vl 5 0)]
 let S17 : Ptr → St := fun z0 => ⟨[(E1 z0), (27, vp z0)], [], H⟩
 refine yf Try.func123 false ⟨[(E1 p0), (1, .agg (Ap p1)), E2, E3], [], H⟩ ?_
 unfold Kd at hF
 refine ysg ⟨(L14 p0), [B4], H⟩ ?_ (h := (by generalize p0 = qp0; cases qp0 <;> kernel_rfl))
 refine Ag ?_
 obtain ⟨r1, r2, c3, hF⟩ := Be hF
 let E5 : EN := (8, .one .top (.int .i32 r1))
 let E8 : EN := (13, .tup [.one .top (.int .i32 r1), vb r2])
 refine Aj ⟨(L14 p0) ++ [E5, (9, vb r2)], [B4], H⟩ ?_ ?_
 refine yr 2 ⟨(L14 p0) ++ [E6, E7], [B4], H⟩ ?_ (h := (by generalize p0 = qp0; cases qp0 <;> kernel_rfl))
 refine Ai ⟨(L14 p0) ++ [E6, E7, E8], [B4], H⟩ (yc (some 13) true false (⟨(L14 p0) ++ [E6, E7], [B4], H⟩ : St) (eE H c3) (hr := (by generalize p0 = qp0; cases qp0 <;> kernel_rfl)) (hs := (by generalize p0 = qp0; cases qp0 <;> kernel_rfl))) ?_
 refine yr 5 ⟨(L14 p0) ++ [E5, (9, vb r2), (10, .tup [.one .top (.int .i32 r1), vb r2]), E6, E7, E8, (14, .one .top (.int .i32 r1)), (15, vb r2)], [B4], H⟩ ?_ (h := (by generalize p0 = qp0; cases qp0 <;> kernel_rfl))
 exact ye
 refine Ag ?_
 refine ysg ⟨(L14 p0) ++ [E5, (9, vb r2), (18, vb (p1.Op_ == 10))], [B4], H⟩ ?_ (h := (by generalize p0 = qp0; cases qp0 <;> kernel_rfl))
 refine As (α := (Int × Bool)) (fun x => (⟨(L15 p0) ++ [(8, .one .top (.int .i32 x.1)), (9, vb x.2)], [B4], H⟩ : St)) (fun x => Dp H p0 p1 x.1 x.2 = some Hr) ?_ ?_
 rintro ⟨j4, j5⟩ hF
 replace hF : Dp H p0 p1 j4 j5 = some Hr := hF
 let E9 : EN := (8, .one .top (.int .i32 j4))
 let L16 : Ptr → List EN := fun z0 => (L15 z0) ++ [E9, (29, vp z0), (30, vl 5 1), (31, vi p1.A_), (32, .one .top (.int .i32 j4)), (33, vu (IntKind.wrap .u32 j4))]
 unfold Dp at hF
 refine Ag ?_
 refine ysg ⟨(L15 p0) ++ [E9, (26, vb (!j5))], [B4], H⟩ ?_ (h := (by generalize p0 = qp0; cases qp0 <;> kernel_rfl))
 rcases Ae hF with ⟨h6, hF⟩ | ⟨h6, hF⟩
 refine yT h6 ⟨[(E1 p0)], [], H⟩ ?_
 refine Ag ?_
 obtain ⟨H8, c7, hF⟩ := Ab hF
 refine Aj ⟨[], [], H8⟩ ?_ ?_
 refine yr 1 (S17 p0) ?_ (h := (by generalize p0 = qp0; cases qp0 <;> kernel_rfl))
 refine Ai ⟨[(E1 p0), (27, vp p0), (28, vN)], [], H8⟩ (yc (some 28) false false (S17 p0) (F2 H c7) (hr := (by generalize p0 = qp0; cases qp0 <;> kernel_rfl)) (hs := (by generalize p0 = qp0; cases qp0 <;> kernel_rfl))) ?_
 exact ye
 refine Au ?_
 obtain e0 := Am hF
 subst e0
 exact yi (vN)
 refine yF h6 ⟨(L15 p0) ++ [E9], [B4], H⟩ ?_
 refine Ao ?_
 obtain ⟨H10, c9, hF⟩ := Ab hF
 refine Aj ⟨[], [], H10⟩ ?_ ?_
 refine yr 5 ⟨(L16 p0), [B4], H⟩ ?_ (h := (by generalize p0 = qp0; cases qp0 <;> kernel_rfl))
 refine Ai ⟨(L16 p0) ++ [(34, vN)], [B4], H10⟩ (yc (some 34) false false (⟨(L16 p0), [B4], H⟩ : St) (Bi H c9) (hr := (by generalize p0 = qp0; cases qp0 <;> kernel_rfl)) (hs := (by generalize p0 = qp0; cases qp0 <;> kernel_rfl))) ?_
 exact ye
 obtain e0 := Am hF
 subst e0
 exact yi (vN)
 rcases Ae hF with ⟨h11, hF⟩ | ⟨h11, hF⟩
 refine yT h11 ⟨(L14 p0), [B4], H⟩ ?_
 obtain ⟨r12, r13, c14, hF⟩ := Be hF
 let E10 : EN := (8, .one .top (.int .i32 r12))
 let E13 : EN := (22, .tup [.one .top (.int .i32 r12), vb r13])
 refine Aj ⟨(L15 p0) ++ [E10, (9, vb r13)], [B4], H⟩ ?_ ?_
 refine yr 2 ⟨(L14 p0) ++ [E11, E12], [B4], H⟩ ?_ (h := (by generalize p0 = qp0; cases qp0 <;> kernel_rfl))
 refine Ai ⟨(L14 p0) ++ [E11, E12, E13], [B4], H⟩ (yc (some 22) true false (⟨(L14 p0) ++ [E11, E12], [B4], H⟩ : St) (eF H c14) (hr := (by generalize p0 = qp0; cases qp0 <;> kernel_rfl)) (hs := (by generalize p0 = qp0; cases qp0 <;> kernel_rfl))) ?_
 refine yr 5 ⟨(L14 p0) ++ [E10, (9, vb r13), (19, .tup [.one .top (.int .i32 r12), vb r13]), E11, E12, E13, (23, .one .top (.int .i32 r12)), (24, vb r13)], [B4], H⟩ ?_ (h := (by generalize p0 = qp0; cases qp0 <;> kernel_rfl))
 exact ye
 exact ⟨(r12, r13), hF, (by kernel_rfl)⟩
 refine yF h11 ⟨(L15 p0) ++ [E5, (9, vb r2)], [B4], H⟩ ?_
 refine Ao ?_
 exact ⟨(r1, r2), hF, (by kernel_rfl)⟩
noncomputable def Ni  (p0 : Bool) : Option (Int) :=
  if p0 = true then (some 1)
  else (some 0)
theorem Pa (H : Ah) {p0 : Bool} {ra : Int} (hF : Ni p0 = some ra) : evS X 124 [.one .top (.bool p0)] H = some (.one .top (.int .u32 ra), H) := by
 refine yf Try.func124 true ⟨[(0, vb p0)], [], H⟩ ?_
 unfold Ni at hF
 refine ysg ⟨[(0, vb p0)], [], H⟩ ?_
 refine Ag ?_
 refine ysg ⟨[(3, vb p0)], [], H⟩ ?_
 rcases Ae hF with ⟨h1, hF⟩ | ⟨h1, hF⟩
 refine yT h1 ⟨[], [], H⟩ ?_
 refine ysg ⟨[(2, vu 1)], [], H⟩ ?_
 refine Au ?_
 obtain e0 := Am hF
 subst e0
 exact yp (vu 1)
 refine yF h1 ⟨[], [], H⟩ ?_
 refine Ao ?_
 refine ysg ⟨[(2, vu 0)], [], H⟩ ?_
 refine Au ?_
 obtain e0 := Am hF
 subst e0
 exact yp (vu 0)
noncomputable def Gd (H10 : Ah) : Option (Ah) :=
  some H10
noncomputable def Ge (H14 : Ah) : Option (Ah) :=
  Gd H14
noncomputable def Gf (H18 : Ah) : Option (Ah) :=
  Ge H18
noncomputable def Gg (H23 : Ah) : Option (Ah) :=
  Gf H23
noncomputable def Gi (H27 : Ah) : Option (Ah) :=
  Gg H27
noncomputable def Gj (H31 : Ah) : Option (Ah) :=
  Gi H31
noncomputable def Gk (H35 : Ah) : Option (Ah) :=
  Gj H35
noncomputable def Gl (H39 : Ah) : Option (Ah) :=
  Gk H39
noncomputable def Fl (H45 : Ah) : Option (Ah) :=
  Gl H45
noncomputable def Fm (H51 : Ah) : Option (Ah) :=
  Fl H51
noncomputable def Bm (H : Ah) (i1 : Nat) (o2 : Nat) (p1 : T_instr_Instr) (v6 : Int) (v8 : Int) (j22 : Bool) : Option (Ah) :=
  if j22 = true then (Af (Kd H (Ptr.at i1 o2) p1 (IntKind.wrap .i32 v6) (IntKind.wrap .i32 v8)) fun H26 =>
  Gg H26)
  else (if (p1.Op_ == 11) = true then (Af (Bh H (Ptr.at i1 o2) p1.A_ (A9 .and .u32 v6 v8)) fun H30 =>
  Gi H30)
  else (if (p1.Op_ == 12) = true then (Af (Bh H (Ptr.at i1 o2) p1.A_ (A9 .or .u32 v6 v8)) fun H34 =>
  Gj H34)
  else (if (p1.Op_ == 13) = true then (Af (Bh H (Ptr.at i1 o2) p1.A_ (A9 .xor .u32 v6 v8)) fun H38 =>
  Gk H38)
  else (if (p1.Op_ == 14) = true then (Af (Ni (decide ((IntKind.wrap .i32 v6) < (IntKind.wrap .i32 v8)))) fun r41 =>
  Af (Bh H (Ptr.at i1 o2) p1.A_ r41) fun H44 =>
  Gl H44)
  else (if (p1.Op_ == 15) = true then (Af (Ni (decide ((IntKind.wrap .i32 v6) ≤ (IntKind.wrap .i32 v8)))) fun r47 =>
  Af (Bh H (Ptr.at i1 o2) p1.A_ r47) fun H50 =>
  Fl H50)
  else (if (p1.Op_ == 16) = true then (Af (Ni ((IntKind.wrap .i32 v6) == (IntKind.wrap .i32 v8))) fun r53 =>
  Af (Bh H (Ptr.at i1 o2) p1.A_ r53) fun H56 =>
  Fm H56)
  else (Af (Ni ((IntKind.wrap .i32 v6) != (IntKind.wrap .i32 v8))) fun r57 =>
  Af (Bh H (Ptr.at i1 o2) p1.A_ r57) fun H60 =>
  Fm H60)))))))
noncomputable def Bc (H : Ah) (p0 : Ptr) (p1 : T_instr_Instr) : Option (Ah) :=
  (p0).bnd fun i1 o2 =>
  Af (Bf H i1 o2) fun x4 =>
  Af (ga x4.R_ p1.B_) fun v6 =>
  Af (ga x4.R_ p1.C_) fun v8 =>
  if (p1.Op_ == 6) = true then (Af (Bh H (Ptr.at i1 o2) p1.A_ (IntKind.wrap .u32 (v6 + v8))) fun H13 =>
  Gd H13)
  else (if (p1.Op_ == 7) = true then (Af (Bh H (Ptr.at i1 o2) p1.A_ (IntKind.wrap .u32 (v6 - v8))) fun H17 =>
  Ge H17)
  else (if (p1.Op_ == 8) = true then (Af (Bh H (Ptr.at i1 o2) p1.A_ (IntKind.wrap .u32 (v6 * v8))) fun H21 =>
  Gf H21)
  else (if (p1.Op_ == 9) = true then (Bm H i1 o2 p1 v6 v8 (p1.Op_ == 9))
  else (Bm H i1 o2 p1 v6 v8 (p1.Op_ == 10)))))
theorem Uq (H : Ah) {p0 : Ptr} {p1 : T_instr_Instr} {Hr : Ah} (hF : Bc H p0 p1 = some Hr) : evS X 103 [.one .top (Ptr.av p0), .agg (Ap p1)] H = some (.tup [], Hr) := by
 let E1 : Ptr → EN := fun z0 => (0, vp z0)
 let E2 : EN := (3, vl 3 0)
 let B3 : EB := (3, (Ap p1))
 let E4 : EN := (9, vl 3 2)
 let E5 : EN := (10, vi p1.B_)
 refine yf Try.func103 false ⟨[(E1 p0), (1, .agg (Ap p1))], [], H⟩ ?_
 unfold Bc at hF
 refine ysg ⟨[(E1 p0), E2], [B3], H⟩ ?_ (h := (by generalize p0 = qp0; cases qp0 <;> kernel_rfl))
 refine Ag ?_
 obtain ⟨i1, o2, h3, hF⟩ := Bu hF
 let E6 : EN := (13, vo i1 (o2 + Int.toNat p1.B_))
 let E8 : EN := (15, vo i1 o2)
 let E9 : EN := (18, vo i1 o2)
 let E10 : EN := (20, vo i1 (o2 + Int.toNat p1.C_))
 let E13 : EN := (100, vo i1 o2)
 let E15 : EN := (110, vo i1 o2)
 let E17 : EN := (120, vo i1 o2)
 let E19 : EN := (28, vo i1 o2)
 let L21 : List EN := [(0, vo i1 o2), E2]
 let L25 : List EN := [(8, vo i1 o2), E4, E5, (11, vo i1 o2)]
 let L26 : List EN := L21 ++ L25 ++ [(12, vo i1 o2)]
 obtain ⟨x4, V5, hF⟩ := Ab hF
 replace V5 := Bb V5
 obtain ⟨v6, h7, hF⟩ := Ab hF
 let E7 : EN := (14, vu v6)
 let E11 : EN := (6, .one .top (.int .i32 (IntKind.wrap .i32 v6)))
 let L27 : List EN := [E6, E7, E8, (16, vl 3 3), (17, vi p1.C_)]
 let L33 : List EN := L26 ++ L27 ++ [E9, (19, vo i1 o2)]
 obtain ⟨v8, h9, hF⟩ := Ab hF
 let E12 : EN := (7, .one .top (.int .i32 (IntKind.wrap .i32 v8)))
 let E14 : EN := (104, .one .top (.int .i32 (IntKind.wrap .i32 v8)))
 let E16 : EN := (114, .one .top (.int .i32 (IntKind.wrap .i32 v8)))
 let E18 : EN := (124, .one .top (.int .i32 (IntKind.wrap .i32 v8)))
 let E20 : EN := (32, .one .top (.int .i32 (IntKind.wrap .i32 v8)))
 let L22 : List EN := L21 ++ [E11, E12]
 let L23 : List EN := L21 ++ [(4, vu v6), (5, vu v8)]
 let L24 : List EN := L23 ++ [E11, E12, (27, vi p1.Op_)]
 let L28 : List EN := L22 ++ [E13, (101, vl 3 1), (102, vi p1.A_), (103, .one .top (.int .i32 (IntKind.wrap .i32 v6)))]
 let L29 : List EN := L22 ++ [E15, (111, vl 3 1), (112, vi p1.A_), (113, .one .top (.int .i32 (IntKind.wrap .i32 v6)))]
 let L30 : List EN := L22 ++ [E17, (121, vl 3 1), (122, vi p1.A_), (123, .one .top (.int .i32 (IntKind.wrap .i32 v6)))]
 let L31 : List EN := L22 ++ [E19, (29, vl 3 1), (30, vi p1.A_), (31, .one .top (.int .i32 (IntKind.wrap .i32 v6)))]
 let L32 : List EN := L22 ++ [(27, vi p1.Op_)]
 let L34 : List EN := L28 ++ [E14, (105, vb (decide ((IntKind.wrap .i32 v6) < (IntKind.wrap .i32 v8))))]
 let L35 : List EN := L29 ++ [E16, (115, vb (decide ((IntKind.wrap .i32 v6) ≤ (IntKind.wrap .i32 v8))))]
 let L36 : List EN := L30 ++ [E18, (125, vb ((IntKind.wrap .i32 v6) == (IntKind.wrap .i32 v8)))]
 let L37 : List EN := L31 ++ [E20, (33, vb ((IntKind.wrap .i32 v6) != (IntKind.wrap .i32 v8)))]
 let L38 : List EN := L22 ++ [(66, vo i1 o2), (67, .agg (Ap p1)), (68, .one .top (.int .i32 (IntKind.wrap .i32 v6))), (69, .one .top (.int .i32 (IntKind.wrap .i32 v8)))]
 let L39 : List EN := L23 ++ [(38, vo i1 o2), (39, vl 3 1), (40, vi p1.A_), (41, vu v6), (42, vu v8), (43, vu (IntKind.wrap .u32 (v6 + v8)))]
 let L40 : List EN := L23 ++ [(47, vo i1 o2), (48, vl 3 1), (49, vi p1.A_), (50, vu v6), (51, vu v8), (52, vu (IntKind.wrap .u32 (v6 - v8)))]
 let L41 : List EN := L23 ++ [(56, vo i1 o2), (57, vl 3 1), (58, vi p1.A_), (59, vu v6), (60, vu v8), (61, vu (IntKind.wrap .u32 (v6 * v8)))]
 let L42 : List EN := L23 ++ [(73, vo i1 o2), (74, vl 3 1), (75, vi p1.A_), (76, vu v6), (77, vu v8), (78, vu (A9 .and .u32 v6 v8))]
 let L43 : List EN := L23 ++ [(82, vo i1 o2), (83, vl 3 1), (84, vi p1.A_), (85, vu v6), (86, vu v8), (87, vu (A9 .or .u32 v6 v8))]
 let L44 : List EN := L23 ++ [(91, vo i1 o2), (92, vl 3 1), (93, vi p1.A_), (94, vu v6), (95, vu v8), (96, vu (A9 .xor .u32 v6 v8))]
 let L45 : List EN := L25 ++ [(12, vo i1 o2)] ++ L27 ++ [E9, (19, vo i1 o2), E10, (21, vu v8)]
 refine Bs (.take 0 (.take 1 (.take 2 (.take 3 (.take 4 (.take 5 (.take 6 (.take 7 (.take 8 (.take 9 (.take 10 (.take 11 (.take 12 (.take 13 (.take 14 (.take 15 .done)))))))))))))))) (by kernel_rfl) (⟨L23, [B3], H⟩ : St) ?_ ?_
 refine Aq ⟨[(E1 p0), E2, (8, vp p0)], [B3], H⟩ (by generalize p0 = qp0; cases qp0 <;> kernel_rfl) ?_
 refine Aq ⟨[(E1 p0), E2, (8, vp p0), E4], [B3], H⟩ (by generalize p0 = qp0; cases qp0 <;> kernel_rfl) ?_
 refine Aq ⟨[(E1 p0), E2, (8, vp p0), E4, E5], [B3], H⟩ (by generalize p0 = qp0; cases qp0 <;> kernel_rfl) ?_
 refine Fi (congrArg (fun q => (⟨[(0, vp q), E2, (8, vp q), E4, E5], [B3], H⟩ : St)) h3) ?_
 refine ydk 2 ⟨L26, [B3], H⟩ ?_
 refine Aq ⟨L26 ++ [E6], [B3], H⟩ (Lb (X := X) (⟨L26, [B3], H⟩ : St) 46 35 16 h7 i1 o2 (some 13) (by kernel_rfl) (by kernel_rfl) (by kernel_rfl) (by kernel_rfl)) ?_
 refine Aq ⟨L26 ++ [E6, E7], [B3], H⟩ (Kq (X := X) (⟨L26 ++ [E6], [B3], H⟩ : St) 35 16 h7 V5 0 (fun q => .int .u32 q) (some 14) (by kernel_rfl) (by kernel_rfl) (by kernel_rfl) (by kernel_rfl) (by kernel_rfl) (by kernel_rfl)) ?_
 refine ydk 5 ⟨L33, [B3], H⟩ ?_
 refine Aq ⟨L33 ++ [E10], [B3], H⟩ (Lb (X := X) (⟨L33, [B3], H⟩ : St) 46 35 16 h9 i1 o2 (some 20) (by kernel_rfl) (by kernel_rfl) (by kernel_rfl) (by kernel_rfl)) ?_
 refine Aq ⟨L33 ++ [E10, (21, vu v8)], [B3], H⟩ (Kq (X := X) (⟨L33 ++ [E10], [B3], H⟩ : St) 35 16 h9 V5 0 (fun q => .int .u32 q) (some 21) (by kernel_rfl) (by kernel_rfl) (by kernel_rfl) (by kernel_rfl) (by kernel_rfl) (by kernel_rfl)) ?_
 refine ydk 2 ⟨L23 ++ L45, [B3], H⟩ ?_
 exact yde
 refine ysg ⟨L23 ++ [E11, E12], [B3], H⟩ ?_
 refine ysg ⟨L24, [B3], H⟩ ?_
 refine Bt ?_
 refine ysg ⟨L24 ++ [(36, vb (p1.Op_ == 6))], [B3], H⟩ ?_
 refine As (α := (Ah)) (fun x => (⟨[], [], x⟩ : St)) (fun x => Gd x = some Hr) ?_ ?_
 rintro H10 hF
 replace hF : Gd H10 = some Hr := hF
 unfold Gd at hF
 obtain e0 := Am hF
 subst e0
 exact yi (vN)
 rcases Ae hF with ⟨h11, hF⟩ | ⟨h11, hF⟩
 refine yT h11 ⟨L23, [B3], H⟩ ?_
 obtain ⟨H13, c12, hF⟩ := Ab hF
 refine Aj ⟨[], [], H13⟩ ?_ ?_
 refine yr 6 ⟨L39, [B3], H⟩ ?_
 refine Ai ⟨L39 ++ [(44, vN)], [B3], H13⟩ (yc (some 44) false false (⟨L39, [B3], H⟩ : St) (Bi H c12)) ?_
 exact ye
 exact ⟨H13, hF, (by kernel_rfl)⟩
 refine yF h11 ⟨L24, [B3], H⟩ ?_
 refine ysg ⟨L24 ++ [(45, vb (p1.Op_ == 7))], [B3], H⟩ ?_
 refine As (α := (Ah)) (fun x => (⟨[], [], x⟩ : St)) (fun x => Ge x = some Hr) ?_ ?_
 rintro H14 hF
 replace hF : Ge H14 = some Hr := hF
 unfold Ge at hF
 exact ⟨H14, hF, (by kernel_rfl)⟩
 rcases Ae hF with ⟨h15, hF⟩ | ⟨h15, hF⟩
 refine yT h15 ⟨L23, [B3], H⟩ ?_
 obtain ⟨H17, c16, hF⟩ := Ab hF
 refine Aj ⟨[], [], H17⟩ ?_ ?_
 refine yr 6 ⟨L40, [B3], H⟩ ?_
 refine Ai ⟨L40 ++ [(53, vN)], [B3], H17⟩ (yc (some 53) false false (⟨L40, [B3], H⟩ : St) (Bi H c16)) ?_
 exact ye
 exact ⟨H17, hF, (by kernel_rfl)⟩
 refine yF h15 ⟨L24, [B3], H⟩ ?_
 refine ysg ⟨L24 ++ [(54, vb (p1.Op_ == 8))], [B3], H⟩ ?_
 refine As (α := (Ah)) (fun x => (⟨[], [], x⟩ : St)) (fun x => Gf x = some Hr) ?_ ?_
 rintro H18 hF
 replace hF : Gf H18 = some Hr := hF
 unfold Gf at hF
 exact ⟨H18, hF, (by kernel_rfl)⟩
 rcases Ae hF with ⟨h19, hF⟩ | ⟨h19, hF⟩
 refine yT h19 ⟨L23, [B3], H⟩ ?_
 obtain ⟨H21, c20, hF⟩ := Ab hF
 refine Aj ⟨[], [], H21⟩ ?_ ?_
 refine yr 6 ⟨L41, [B3], H⟩ ?_
 refine Ai ⟨L41 ++ [(62, vN)], [B3], H21⟩ (yc (some 62) false false (⟨L41, [B3], H⟩ : St) (Bi H c20)) ?_
 exact ye
 exact ⟨H21, hF, (by kernel_rfl)⟩
 refine yF h19 ⟨L24, [B3], H⟩ ?_
 refine Ag ?_
 refine ysg ⟨L24 ++ [(63, vb (p1.Op_ == 9))], [B3], H⟩ ?_
 refine As (α := (Bool)) (fun x => (⟨L24 ++ [(63, vb x)], [B3], H⟩ : St)) (fun x => Bm H i1 o2 p1 v6 v8 x = some Hr) ?_ ?_
 rintro j22 hF
 replace hF : Bm H i1 o2 p1 v6 v8 j22 = some Hr := hF
 unfold Bm at hF
 refine As (α := (Ah)) (fun x => (⟨[], [], x⟩ : St)) (fun x => Gg x = some Hr) ?_ ?_
 rintro H23 hF
 replace hF : Gg H23 = some Hr := hF
 unfold Gg at hF
 exact ⟨H23, hF, (by kernel_rfl)⟩
 rcases Ae hF with ⟨h24, hF⟩ | ⟨h24, hF⟩
 refine yT h24 ⟨L22, [B3], H⟩ ?_
 obtain ⟨H26, c25, hF⟩ := Ab hF
 refine Aj ⟨[], [], H26⟩ ?_ ?_
 refine yr 4 ⟨L38, [B3], H⟩ ?_
 refine Ai ⟨L38 ++ [(70, vN)], [B3], H26⟩ (yc (some 70) false false (⟨L38, [B3], H⟩ : St) (Up H c25)) ?_
 exact ye
 exact ⟨H26, hF, (by kernel_rfl)⟩
 refine yF h24 ⟨L24, [B3], H⟩ ?_
 refine ysg ⟨L24 ++ [(71, vb (p1.Op_ == 11))], [B3], H⟩ ?_
 refine As (α := (Ah)) (fun x => (⟨[], [], x⟩ : St)) (fun x => Gi x = some Hr) ?_ ?_
 rintro H27 hF
 replace hF : Gi H27 = some Hr := hF
 unfold Gi at hF
 exact ⟨H27, hF, (by kernel_rfl)⟩
 rcases Ae hF with ⟨h28, hF⟩ | ⟨h28, hF⟩
 refine yT h28 ⟨L23, [B3], H⟩ ?_
 obtain ⟨H30, c29, hF⟩ := Ab hF
 refine Aj ⟨[], [], H30⟩ ?_ ?_
 refine yr 6 ⟨L42, [B3], H⟩ ?_
 refine Ai ⟨L42 ++ [(79, vN)], [B3], H30⟩ (yc (some 79) false false (⟨L42, [B3], H⟩ : St) (Bi H c29)) ?_
 exact ye
 exact ⟨H30, hF, (by kernel_rfl)⟩
 refine yF h28 ⟨L24, [B3], H⟩ ?_
 refine ysg ⟨L24 ++ [(80, vb (p1.Op_ == 12))], [B3], H⟩ ?_
 refine As (α := (Ah)) (fun x => (⟨[], [], x⟩ : St)) (fun x => Gj x = some Hr) ?_ ?_
 rintro H31 hF
 replace hF : Gj H31 = some Hr := hF
 unfold Gj at hF
 exact ⟨H31, hF, (by kernel_rfl)⟩
 rcases Ae hF with ⟨h32, hF⟩ | ⟨h32, hF⟩
 refine yT h32 ⟨L23, [B3], H⟩ ?_
 obtain ⟨H34, c33, hF⟩ := Ab hF
 refine Aj ⟨[], [], H34⟩ ?_ ?_
 refine yr 6 ⟨L43, [B3], H⟩ ?_
 refine Ai ⟨L43 ++ [(88, vN)], [B3], H34⟩ (yc (some 88) false false (⟨L43, [B3], H⟩ : St) (Bi H c33)) ?_
 exact ye
 exact ⟨H34, hF, (by kernel_rfl)⟩
 refine yF h32 ⟨L24, [B3], H⟩ ?_
 refine ysg ⟨L24 ++ [(89, vb (p1.Op_ == 13))], [B3], H⟩ ?_
 refine As (α := (Ah)) (fun x => (⟨[], [], x⟩ : St)) (fun x => Gk x = some Hr) ?_ ?_
 rintro H35 hF
 replace hF : Gk H35 = some Hr := hF
 unfold Gk at hF
 exact ⟨H35, hF, (by kernel_rfl)⟩
 rcases Ae hF with ⟨h36, hF⟩ | ⟨h36, hF⟩
 refine yT h36 ⟨L23, [B3], H⟩ ?_
 obtain ⟨H38, c37, hF⟩ := Ab hF
 refine Aj ⟨[], [], H38⟩ ?_ ?_
 refine yr 6 ⟨L44, [B3], H⟩ ?_
 refine Ai ⟨L44 ++ [(97, vN)], [B3], H38⟩ (yc (some 97) false false (⟨L44, [B3], H⟩ : St) (Bi H c37)) ?_
 exact ye
 exact ⟨H38, hF, (by kernel_rfl)⟩
 refine yF h36 ⟨L32, [B3], H⟩ ?_
 refine ysg ⟨L32 ++ [(98, vb (p1.Op_ == 14))], [B3], H⟩ ?_
 refine As (α := (Ah)) (fun x => (⟨[], [], x⟩ : St)) (fun x => Gl x = some Hr) ?_ ?_
 rintro H39 hF
 replace hF : Gl H39 = some Hr := hF
 unfold Gl at hF
 exact ⟨H39, hF, (by kernel_rfl)⟩
 rcases Ae hF with ⟨h40, hF⟩ | ⟨h40, hF⟩
 refine yT h40 ⟨L22, [B3], H⟩ ?_
 obtain ⟨r41, c42, hF⟩ := Ab hF
 obtain ⟨H44, c43, hF⟩ := Ab hF
 refine Bs (.take 0 (.take 1 (.take 2 (.take 3 (.take 4 (.take 5 (.last 6 (.last 7 .done)))))))) (by kernel_rfl) (⟨[], [], H44⟩ : St) ?_ ?_
 refine ydk 6 ⟨L34, [B3], H⟩ ?_
 refine Br ⟨L34 ++ [(106, vu r41)], [B3], H⟩ (yc (some 106) true false (⟨L34, [B3], H⟩ : St) (Pa H c42)) ?_
 refine Br ⟨L34 ++ [(106, vu r41), (107, vN)], [B3], H44⟩ (yc (some 107) false false (⟨L34 ++ [(106, vu r41)], [B3], H⟩ : St) (Bi H c43)) ?_
 exact yde
 exact ⟨H44, hF, (by kernel_rfl)⟩
 refine yF h40 ⟨L32, [B3], H⟩ ?_
 refine ysg ⟨L32 ++ [(108, vb (p1.Op_ == 15))], [B3], H⟩ ?_
 refine As (α := (Ah)) (fun x => (⟨[], [], x⟩ : St)) (fun x => Fl x = some Hr) ?_ ?_
 rintro H45 hF
 replace hF : Fl H45 = some Hr := hF
 unfold Fl at hF
 exact ⟨H45, hF, (by kernel_rfl)⟩
 rcases Ae hF with ⟨h46, hF⟩ | ⟨h46, hF⟩
 refine yT h46 ⟨L22, [B3], H⟩ ?_
 obtain ⟨r47, c48, hF⟩ := Ab hF
 obtain ⟨H50, c49, hF⟩ := Ab hF
 refine Bs (.take 0 (.take 1 (.take 2 (.take 3 (.take 4 (.take 5 (.last 6 (.last 7 .done)))))))) (by kernel_rfl) (⟨[], [], H50⟩ : St) ?_ ?_
 refine ydk 6 ⟨L35, [B3], H⟩ ?_
 refine Br ⟨L35 ++ [(116, vu r47)], [B3], H⟩ (yc (some 116) true false (⟨L35, [B3], H⟩ : St) (Pa H c48)) ?_
 refine Br ⟨L35 ++ [(116, vu r47), (117, vN)], [B3], H50⟩ (yc (some 117) false false (⟨L35 ++ [(116, vu r47)], [B3], H⟩ : St) (Bi H c49)) ?_
 exact yde
 exact ⟨H50, hF, (by kernel_rfl)⟩
 refine yF h46 ⟨L32, [B3], H⟩ ?_
 refine ysg ⟨L22 ++ [(118, vb (p1.Op_ == 16))], [B3], H⟩ ?_
 refine As (α := (Ah)) (fun x => (⟨[], [], x⟩ : St)) (fun x => Fm x = some Hr) ?_ ?_
 rintro H51 hF
 replace hF : Fm H51 = some Hr := hF
 unfold Fm at hF
 exact ⟨H51, hF, (by kernel_rfl)⟩
 rcases Ae hF with ⟨h52, hF⟩ | ⟨h52, hF⟩
 refine yT h52 ⟨L22, [B3], H⟩ ?_
 obtain ⟨r53, c54, hF⟩ := Ab hF
 obtain ⟨H56, c55, hF⟩ := Ab hF
 refine Bs (.take 0 (.take 1 (.take 2 (.take 3 (.take 4 (.take 5 (.last 6 (.last 7 .done)))))))) (by kernel_rfl) (⟨[], [], H56⟩ : St) ?_ ?_
 refine ydk 6 ⟨L36, [B3], H⟩ ?_
 refine Br ⟨L36 ++ [(126, vu r53)], [B3], H⟩ (yc (some 126) true false (⟨L36, [B3], H⟩ : St) (Pa H c54)) ?_
 refine Br ⟨L36 ++ [(126, vu r53), (127, vN)], [B3], H56⟩ (yc (some 127) false false (⟨L36 ++ [(126, vu r53)], [B3], H⟩ : St) (Bi H c55)) ?_
 exact yde
 exact ⟨H56, hF, (by kernel_rfl)⟩
 refine yF h52 ⟨L22, [B3], H⟩ ?_
 obtain ⟨r57, c58, hF⟩ := Ab hF
 obtain ⟨H60, c59, hF⟩ := Ab hF
 refine Bs (.take 0 (.take 1 (.take 2 (.take 3 (.take 4 (.take 5 (.last 6 (.last 7 .done)))))))) (by kernel_rfl) (⟨[], [], H60⟩ : St) ?_ ?_
 refine ydk 6 ⟨L37, [B3], H⟩ ?_
 refine Br ⟨L37 ++ [(34, vu r57)], [B3], H⟩ (yc (some 34) true false (⟨L37, [B3], H⟩ : St) (Pa H c58)) ?_
 refine Br ⟨L37 ++ [(34, vu r57), (35, vN)], [B3], H60⟩ (yc (some 35) false false (⟨L37 ++ [(34, vu r57)], [B3], H⟩ : St) (Bi H c59)) ?_
 exact yde
 exact ⟨H60, hF, (by kernel_rfl)⟩
 rcases Ae hF with ⟨h61, hF⟩ | ⟨h61, hF⟩
 refine yT h61 ⟨L24 ++ [(63, vb (p1.Op_ == 9))], [B3], H⟩ ?_
 refine Ao ?_
 exact ⟨(p1.Op_ == 9), hF, (by kernel_rfl)⟩
 refine yF h61 ⟨L24, [B3], H⟩ ?_
 refine yg ⟨L24 ++ [(63, vb (p1.Op_ == 10))], [B3], H⟩ ?_
 exact ⟨(p1.Op_ == 10), hF, (by kernel_rfl)⟩
noncomputable def Ej (H : Ah) (p0 : Ptr) (p1 : Int) : Option (Int × Int) :=
  Cc (D0 H p0 p1) fun r1 r2 =>
  if (r2 != 0) = true then (some (0, r2))
  else ((p0).bnd fun i5 o6 =>
  Af (Cu H i5 o6) fun x8 =>
  Af (gi x8.words_ r1) fun x10 =>
  some (x10, 0))
theorem Ox (H : Ah) {p0 : Ptr} {p1 : Int} {ra : Int} {rb : Int} (hF : Ej H p0 p1 = some (ra, rb)) : evS X 108 [.one .top (Ptr.av p0), .one .top (.int .u32 p1)] H = some (.tup [.one .top (.int .u32 ra), .one .top (.int .i64 rb)], H) := by
 let E1 : Ptr → EN := fun z0 => (0, vp z0)
 let L10 : Ptr → List EN := fun z0 => [(E1 z0), (1, vu p1), (9, vp z0), (10, vu p1)]
 let S11 : Ptr → St := fun z0 => ⟨[(E1 z0), (1, vu p1)], [], H⟩
 refine yf Try.func108 true (S11 p0) ?_
 unfold Ej at hF
 refine ysg (S11 p0) ?_ (h := (by generalize p0 = qp0; cases qp0 <;> kernel_rfl))
 refine Ag ?_
 obtain ⟨r1, r2, c3, hF⟩ := Be hF
 let E2 : EN := (6, vi r1)
 let E3 : EN := (11, .tup [vi r1, vi r2])
 let E7 : EN := (21, vi r1)
 refine Aj ⟨[(E1 p0), E2, (7, vi r2)], [], H⟩ ?_ ?_
 refine yr 2 ⟨(L10 p0), [], H⟩ ?_ (h := (by generalize p0 = qp0; cases qp0 <;> kernel_rfl))
 refine Ai ⟨(L10 p0) ++ [E3], [], H⟩ (yc (some 11) true false (⟨(L10 p0), [], H⟩ : St) (Kr H c3) (hr := (by generalize p0 = qp0; cases qp0 <;> kernel_rfl)) (hs := (by generalize p0 = qp0; cases qp0 <;> kernel_rfl))) ?_
 refine yr 5 ⟨[(E1 p0), (1, vu p1), E2, (7, vi r2), (8, .tup [vi r1, vi r2]), (9, vp p0), (10, vu p1), E3, (12, vi r1), (13, vi r2)], [], H⟩ ?_ (h := (by generalize p0 = qp0; cases qp0 <;> kernel_rfl))
 exact ye
 refine Ag ?_
 refine ysg ⟨[(E1 p0), E2, (7, vi r2), (15, vb (r2 != 0))], [], H⟩ ?_ (h := (by generalize p0 = qp0; cases qp0 <;> kernel_rfl))
 rcases Ae hF with ⟨h4, hF⟩ | ⟨h4, hF⟩
 refine yT h4 ⟨[(7, vi r2)], [], H⟩ ?_
 refine ysg ⟨[(4, vu 0), (5, vi r2)], [], H⟩ ?_
 refine Au ?_
 obtain ⟨e0, e1⟩ := Ar hF
 subst e0
 subst e1
 exact yp (.tup [vu 0, vi r2])
 refine yF h4 ⟨[(E1 p0), E2], [], H⟩ ?_
 refine Ao ?_
 refine Ag ?_
 obtain ⟨i5, o6, h7, hF⟩ := Bu hF
 let E4 : EN := (17, vo i5 o6)
 let E5 : EN := (18, vo i5 o6)
 let L9 : List EN := [(0, vo i5 o6), E2, E4, E5, (19, vo i5 (o6 + 5))]
 obtain ⟨x8, V9, hF⟩ := Ab hF
 replace V9 := Bb V9
 let E6 : EN := (20, .one .bh (.sl 1 (List.map (eI .u32) x8.words_)))
 obtain ⟨x10, h11, hF⟩ := Ab hF
 let E8 : EN := (22, .one .top (.rd .bh .bh [.int .u32 x10] 0))
 refine Aj ⟨[(4, vu x10), (5, vi 0)], [], H⟩ ?_ ?_
 refine yr 1 ⟨[(E1 p0), E2, (17, vp p0)], [], H⟩ ?_ (h := (by generalize p0 = qp0; cases qp0 <;> kernel_rfl))
 refine Bd (congrArg (fun q => (⟨[(0, vp q), E2, (17, vp q)], [], H⟩ : St)) h7) ?_
 refine yr 1 ⟨[(0, vo i5 o6), E2, E4, E5], [], H⟩ ?_
 refine yr 1 ⟨L9, [], H⟩ ?_
 refine Ai ⟨L9 ++ [E6], [], H⟩ (yd (X := X) (⟨L9, [], H⟩ : St) 42 V9 5 1 false (.one .bh (.sl 1 (List.map (eI .u32) x8.words_))) (some 20)) ?_
 refine yr 1 ⟨L9 ++ [E6, E7], [], H⟩ ?_
 refine Ai ⟨L9 ++ [E6, E7, E8], [], H⟩ (P5 (X := X) (⟨L9 ++ [E6, E7], [], H⟩ : St) 42 35 1 h11 (eI .u32) .bh (some 22) (by kernel_rfl) (by kernel_rfl) (by kernel_rfl) (by kernel_rfl)) ?_
 refine yr 3 ⟨[(0, vo i5 o6), (4, vu x10), (5, vi 0), E2, E4, E5, (19, vo i5 (o6 + 5)), E6, E7, E8, (23, vu x10)], [], H⟩ ?_
 exact ye
 refine Au ?_
 obtain ⟨e0, e1⟩ := Ar hF
 subst e0
 subst e1
 exact yp (.tup [vu x10, vi 0])
noncomputable def D1 (H : Ah) (p0 : Ptr) (p1 : Int) (p2 : Int) : Option (Ah × Int) :=
  Cc (D0 H p0 p1) fun r1 r2 =>
  if (r2 != 0) = true then (some (H, r2))
  else ((p0).bnd fun i5 o6 =>
  Af (Cu H i5 o6) fun x8 =>
  if (decide (p1 < x8.layout_.Tables_)) = true then (some (H, 32))
  else (Af (gi x8.words_ r1) fun x11 =>
  Af (si x8.words_ r1 p2) fun v13 =>
  bnd (Dm H i5 o6 (T_memory_Mem.mk x8.layout_ v13)) fun H15 =>
  some (H15, 0)))
theorem Sq (H : Ah) {p0 : Ptr} {p1 : Int} {p2 : Int} {ra : Int} {Hr : Ah} (hF : D1 H p0 p1 p2 = some (Hr, ra)) : evS X 125 [.one .top (Ptr.av p0), .one .top (.int .u32 p1), .one .top (.int .u32 p2)] H = some (.one .top (.int .i64 ra), Hr) := by
 let E2 : Ptr → EN := fun z0 => (0, vp z0)
 let E3 : EN := (2, vu p2)
 let E7 : EN := (20, vu p1)
 let L16 : Ptr → List EN := fun z0 => [(E2 z0), (1, vu p1), E3, (10, vp z0), (11, vu p1)]
 let S18 : Ptr → St := fun z0 => ⟨[(E2 z0), (1, vu p1), E3], [], H⟩
 refine yf Try.func125 false (S18 p0) ?_
 unfold D1 at hF
 refine ysg (S18 p0) ?_ (h := (by generalize p0 = qp0; cases qp0 <;> kernel_rfl))
 refine Ag ?_
 obtain ⟨r1, r2, c3, hF⟩ := Be hF
 let E4 : EN := (12, .tup [vi r1, vi r2])
 let L12 : List EN := [(1, vu p1), E3, (7, vi r1)]
 refine Aj ⟨[(E2 p0)] ++ L12 ++ [(8, vi r2)], [], H⟩ ?_ ?_
 refine yr 2 ⟨(L16 p0), [], H⟩ ?_ (h := (by generalize p0 = qp0; cases qp0 <;> kernel_rfl))
 refine Ai ⟨(L16 p0) ++ [E4], [], H⟩ (yc (some 12) true false (⟨(L16 p0), [], H⟩ : St) (Kr H c3) (hr := (by generalize p0 = qp0; cases qp0 <;> kernel_rfl)) (hs := (by generalize p0 = qp0; cases qp0 <;> kernel_rfl))) ?_
 refine yr 5 ⟨[(E2 p0)] ++ L12 ++ [(8, vi r2), (9, .tup [vi r1, vi r2]), (10, vp p0), (11, vu p1), E4, (13, vi r1), (14, vi r2)], [], H⟩ ?_ (h := (by generalize p0 = qp0; cases qp0 <;> kernel_rfl))
 exact ye
 refine Ag ?_
 refine Bt ?_
 refine ysg ⟨[(E2 p0)] ++ L12 ++ [(8, vi r2), (15, vb (r2 != 0))], [], H⟩ ?_ (h := (by generalize p0 = qp0; cases qp0 <;> kernel_rfl))
 rcases Ae hF with ⟨h4, hF⟩ | ⟨h4, hF⟩
 refine yT h4 ⟨[(8, vi r2)], [], H⟩ ?_
 refine ysg ⟨[(6, vi r2)], [], H⟩ ?_
 refine Au ?_
 obtain ⟨e0, e1⟩ := Ar hF
 subst e0
 subst e1
 exact yi (vi r2)
 refine yF h4 ⟨[(E2 p0)] ++ L12, [], H⟩ ?_
 refine Ag ?_
 obtain ⟨i5, o6, h7, hF⟩ := Bu hF
 let E5 : EN := (0, vo i5 o6)
 let E8 : EN := (21, vo i5 o6)
 let E9 : EN := (22, vo i5 o6)
 let L13 : List EN := [E5, E3, (7, vi r1), (27, vo i5 o6), (28, vo i5 o6), (29, vo i5 (o6 + 5))]
 let L17 : List EN := [E5] ++ L12 ++ [E7, E8, E9, (23, vo i5 o6), (24, vo i5 (o6 + 1))]
 obtain ⟨x8, V9, hF⟩ := Ab hF
 replace V9 := Bb V9
 let E6 : EN := (19, vb (decide (p1 < x8.layout_.Tables_)))
 let E10 : EN := (25, vu x8.layout_.Tables_)
 let E11 : EN := (30, .one .top (.at_ (.obj i5 (o6 + 5)) 0 ((List.map (eI .u32) x8.words_).length)))
 let L14 : List EN := L13 ++ [E11, (31, vi r1), (32, vu p2)]
 let L15 : List EN := L14 ++ [(33, .one .top (.el (.obj i5 (o6 + 5)) (Int.toNat r1) 0))]
 refine Aj ⟨[E5, E3, (7, vi r1), E6], [], H⟩ ?_ ?_
 refine yr 2 ⟨[(E2 p0)] ++ L12 ++ [E7, (21, vp p0)], [], H⟩ ?_ (h := (by generalize p0 = qp0; cases qp0 <;> kernel_rfl))
 refine Bd (congrArg (fun q => (⟨[(0, vp q)] ++ L12 ++ [E7, (21, vp q)], [], H⟩ : St)) h7) ?_
 refine yr 1 ⟨[E5] ++ L12 ++ [E7, E8, E9], [], H⟩ ?_
 refine yr 2 ⟨L17, [], H⟩ ?_
 refine Ai ⟨L17 ++ [E10], [], H⟩ (yd (X := X) (⟨L17, [], H⟩ : St) 35 V9 1 1 false (vu x8.layout_.Tables_) (some 25)) ?_
 refine yr 2 ⟨[E5] ++ L12 ++ [E6, E7, E8, E9, (23, vo i5 o6), (24, vo i5 (o6 + 1)), E10, (26, vb (decide (p1 < x8.layout_.Tables_)))], [], H⟩ ?_
 exact ye
 rcases Ae hF with ⟨h10, hF⟩ | ⟨h10, hF⟩
 refine yT h10 ⟨[], [], H⟩ ?_
 refine ysg ⟨[(6, vi 32)], [], H⟩ ?_
 refine Au ?_
 obtain ⟨e0, e1⟩ := Ar hF
 subst e0
 subst e1
 exact yi (vi 32)
 refine yF h10 ⟨[E5, E3, (7, vi r1)], [], H⟩ ?_
 refine Ao ?_
 refine Ag ?_
 obtain ⟨x11, h12, hF⟩ := Ab hF
 obtain ⟨v13, h14, hF⟩ := Ab hF
 let W1 : Ah := Dt H i5 o6 [(.top, .int .u32 x8.layout_.Code_), (.top, .int .u32 x8.layout_.Tables_), (.top, .int .u32 x8.layout_.Data_), (.top, .int .u32 x8.layout_.Heap_), (.top, .int .u32 x8.layout_.Stack_), ((.own 1), .sl 1 (List.map (eI .u32) v13))]
 obtain ⟨H15, h16, hF⟩ := Cl hF
 have V17 : Ct H15 i5 o6 6 = some (D3 (T_memory_Mem.mk x8.layout_ v13)) := by rw [← h16]; exact Bv V9 rfl
 refine Aj ⟨[], [], H15⟩ ?_ ?_
 refine yr 3 ⟨L13, [], H⟩ ?_
 refine Ai ⟨L13 ++ [E11], [], H⟩ (fZ (X := X) (⟨L13, [], H⟩ : St) 42 V9 5 0 1 (List.map (eI .u32) x8.words_) (some 30) (by kernel_rfl) (by kernel_rfl) (by kernel_rfl) (by kernel_rfl) (by kernel_rfl) (by kernel_rfl)) ?_
 refine yr 2 ⟨L14, [], H⟩ ?_
 refine Ai ⟨L15, [], H⟩ (bU (X := X) (⟨L14, [], H⟩ : St) 42 35 1 h12 (eI .u32) (.obj i5 (o6 + 5)) 0 (List.map (eI .u32) x8.words_).length 0 (some 33) (by kernel_rfl) (by kernel_rfl) (by kernel_rfl) (Yx (k := 5) (c := ((.own 1), .sl 1 (List.map (eI .u32) x8.words_))) V9 (by kernel_rfl) (by kernel_rfl)) rfl (List.length_map _) (by kernel_rfl)) ?_
 refine Ai ⟨L15, [], W1⟩ (bZ (X := X) (⟨L15, [], H⟩ : St) (⟨L15, [], W1⟩ : St) ⟨false, []⟩ 35 (.obj i5 (o6 + 5)) (Int.toNat r1) 0 1 0 (List.map (eI .u32) x8.words_) [.int .u32 x11] ((eI .u32) p2) (List.map (eI .u32) v13) 1 (vu p2) (by kernel_rfl) (by kernel_rfl) (by kernel_rfl) (by kernel_rfl) (by kernel_rfl) (Yx (k := 5) (c := ((.own 1), .sl 1 (List.map (eI .u32) x8.words_))) V9 (by kernel_rfl) (by kernel_rfl)) (iM h12) (by kernel_rfl) (by kernel_rfl) (bY h14) (mG (k := 5) V9 (by kernel_rfl) (Cd V9 (Nat.le_of_ble_eq_true rfl))) (by kernel_rfl)) ?_
 refine Bd (congrArg (fun q => (⟨L15, [], q⟩ : St)) h16) ?_
 exact ye
 refine ysg ⟨[(6, vi 0)], [], H15⟩ ?_
 refine Au ?_
 obtain ⟨e0, e1⟩ := Ar hF
 subst e0
 subst e1
 exact yi (vi 0)
noncomputable def Gm (H : Ah) (p0 : Ptr) (p1 : Int) : Option (Ah) :=
  (p0).bnd fun i1 o2 =>
  Af (Bf H i1 o2) fun x4 =>
  bnd (Bl H i1 o2 (T_cpu_Cpu.mk x4.R_ (IntKind.wrap .u32 (x4.PC_ + (IntKind.wrap .u32 (4 + (IntKind.wrap .u32 (IntKind.wrap .i64 (4 * p1))))))) x4.EPC_ x4.Cause_ x4.State_ x4.Why_ x4.Steps_ x4.Taken_ x4.Out_ x4.setup_ x4.input_)) fun H6 =>
  some H6
theorem N0 (H : Ah) {p0 : Ptr} {p1 : Int} {Hr : Ah} (hF : Gm H p0 p1 = some Hr) : evS X 126 [.one .top (Ptr.av p0), .one .top (.int .i64 p1)] H = some (.tup [], Hr) := by
 let E2 : EN := (1, vi p1)
 refine yf Try.func126 false ⟨[(0, vp p0), E2], [], H⟩ ?_
 unfold Gm at hF
 obtain ⟨i1, o2, h3, hF⟩ := Bu hF
 let L3 : List EN := [(0, vo i1 o2), E2, (4, vo i1 o2), (5, vo i1 o2), (6, vo i1 (o2 + 16))]
 obtain ⟨x4, V5, hF⟩ := Ab hF
 replace V5 := Bb V5
 let W1 : Ah := Dt H i1 o2 (arM .u32 16 x4.R_ ++ [(.top, .int .u32 (IntKind.wrap .u32 (x4.PC_ + (IntKind.wrap .u32 (4 + (IntKind.wrap .u32 (IntKind.wrap .i64 (4 * p1)))))))), (.top, .int .u32 x4.EPC_), (.top, .int .u32 x4.Cause_), (.top, .int .i64 x4.State_), (.top, .int .i64 x4.Why_), (.top, .int .i64 x4.Steps_), (.top, .int .i64 x4.Taken_), ((.own 1), .sl 2 (List.map Ad x4.Out_)), (.top, .int .u32 x4.setup_.Entry_), (.top, .int .u32 x4.setup_.Vector_), (.top, .int .u32 x4.setup_.Guard_), (.top, .int .u32 x4.setup_.Limit_), ((.own 1), .sl 1 (List.map (eI .i32) x4.input_))])
 let L4 : List EN := L3 ++ [(7, vu x4.PC_), (8, vi p1), (9, vi (IntKind.wrap .i64 (4 * p1))), (10, vu (IntKind.wrap .u32 (IntKind.wrap .i64 (4 * p1)))), (11, vu (IntKind.wrap .u32 (4 + (IntKind.wrap .u32 (IntKind.wrap .i64 (4 * p1)))))), (12, vu (IntKind.wrap .u32 (x4.PC_ + (IntKind.wrap .u32 (4 + (IntKind.wrap .u32 (IntKind.wrap .i64 (4 * p1)))))))), (13, vo i1 o2), (14, vo i1 (o2 + 16))]
 obtain ⟨H6, h7, hF⟩ := Cl hF
 have V8 : Ct H6 i1 o2 29 = some (Bz (T_cpu_Cpu.mk x4.R_ (IntKind.wrap .u32 (x4.PC_ + (IntKind.wrap .u32 (4 + (IntKind.wrap .u32 (IntKind.wrap .i64 (4 * p1))))))) x4.EPC_ x4.Cause_ x4.State_ x4.Why_ x4.Steps_ x4.Taken_ x4.Out_ x4.setup_ x4.input_)) := by rw [← h7]; exact Bv V5 rfl
 refine Aj ⟨[], [], H6⟩ ?_ ?_
 refine yr 1 ⟨[(0, vp p0), E2, (4, vp p0)], [], H⟩ ?_ (h := (by generalize p0 = qp0; cases qp0 <;> kernel_rfl))
 refine Bd (congrArg (fun q => (⟨[(0, vp q), E2, (4, vp q)], [], H⟩ : St)) h3) ?_
 refine yr 1 ⟨[(0, vo i1 o2), E2, (4, vo i1 o2), (5, vo i1 o2)], [], H⟩ ?_
 refine yr 1 ⟨L3, [], H⟩ ?_
 refine Ai ⟨L3 ++ [(7, vu x4.PC_)], [], H⟩ (yd (X := X) (⟨L3, [], H⟩ : St) 35 V5 16 1 false (vu x4.PC_) (some 7)) ?_
 refine yr 7 ⟨L4, [], H⟩ ?_
 refine Ai ⟨L4, [], W1⟩ (G7 (X := X) (lc := []) (h2 := W1) (⟨L4, [], H⟩ : St) 35 V5 16 1 (vu (IntKind.wrap .u32 (x4.PC_ + (IntKind.wrap .u32 (4 + (IntKind.wrap .u32 (IntKind.wrap .i64 (4 * p1)))))))) (by kernel_rfl) (by kernel_rfl) (by kernel_rfl) (by kernel_rfl) (by kernel_rfl) (by kernel_rfl) (Cd V5 (Nat.le_of_ble_eq_true rfl)) (by kernel_rfl)) ?_
 refine Bd (congrArg (fun q => (⟨L4, [], q⟩ : St)) h7) ?_
 exact ye
 obtain e0 := Am hF
 subst e0
 exact yi (vN)
end Go.Proofs.Abs
