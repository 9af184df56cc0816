import Derived.Test.YtjheniapmdcelaaCpuStepsX
set_option linter.unusedVariables false
set_option linter.unusedSimpArgs false
set_option linter.unusedSectionVars false
namespace Go.Proofs.Abs
open Go Go.Proofs
set_option linter.unusedVariables false
set_option maxRecDepth 100000
set_option maxHeartbeats 0
noncomputable def Hk  (p0 : T_memory_Layout) : Option ((Arr 5 Int)) :=
  some (Ho [p0.Code_, p0.Tables_, p0.Data_, p0.Heap_, p0.Stack_] : Arr 5 Int)
theorem Q0 (H : Ai) {p0 : T_memory_Layout} {ra : (Arr 5 Int)} (hF : Hk p0 = some ra) : evS X 131 [.agg (A9 p0)] H = some (.agg (arM .u32 5 ra), H) := by
 refine yf Try.func131 true ⟨[(0, .agg (A9 p0))], [], H⟩ ?_
 unfold Hk at hF
 refine ysg ⟨[(1, vl 1 0), (2, vl 2 0)], [(1, (A9 p0)), (2, (List.replicate 5 (.top, .int .u32 0)))], H⟩ ?_
 refine ysg ⟨[(2, vl 2 0)], [(2, (A9 p0))], H⟩ ?_
 refine As ?_
 obtain e0 := Al hF
 subst e0
 exact yp (.agg (A9 p0))
noncomputable def Fq (r1 : (Arr 5 Int)) (a3 : Int) (a4 : Int) : Option ((Int × Int) ⊕ (Unit ⊕ Unit)) :=
  if (decide (a4 < 5)) = true then (Ag (ga r1 a4) fun v6 =>
  if ((decide (v6 < a3)) || (((Int.tmod v6 4) != 0) || (decide (v6 > 1048576)))) = true then (some (Sum.inr (Sum.inr ())))
  else (some (Sum.inl (v6, (IntKind.wrap .i64 (a4 + 1))))))
  else (some (Sum.inr (Sum.inl ())))
noncomputable def Ls  (p0 : T_memory_Layout) : Option (Bool) :=
  Ag (Hk p0) fun r1 =>
  Ag (Gg (fun (x : (Int × Int)) => Fq r1 x.1 x.2) (0, 0)) (dO (fun (_ : Unit) =>
  some true) (fun (_ : Unit) =>
  some false))
theorem Vz (H : Ai) {p0 : T_memory_Layout} {ra : Bool} (hF : Ls p0 = some ra) : evS X 112 [.agg (A9 p0)] H = some (.one .top (.bool ra), H) := by
 let B1 : EB := (1, (A9 p0))
 let L7 : List EN := [(1, vl 1 0), (3, vu 0), (6, .agg (A9 p0))]
 let S8 : St := ⟨[], [], H⟩
 let S9 : St := ⟨[(2, vF)], [], H⟩
 refine yf Try.func112 true ⟨[(0, .agg (A9 p0))], [], H⟩ ?_
 unfold Ls at hF
 refine ysg ⟨[(1, vl 1 0)], [B1], H⟩ ?_
 refine ysg ⟨[(1, vl 1 0), (3, vu 0)], [B1], H⟩ ?_
 refine Ah ?_
 refine Ah ?_
 obtain ⟨r1, c2, hF⟩ := Ab hF
 let E2 : EN := (7, .agg (arM .u32 5 r1))
 refine Ak ⟨[(3, vu 0), E2, (8, vi 0)], [], H⟩ ?_ ?_
 refine yr 1 ⟨L7, [B1], H⟩ ?_
 refine Aj ⟨L7 ++ [E2], [B1], H⟩ (yc (some 7) true false (⟨L7, [B1], H⟩ : St) (Q0 H c2)) ?_
 refine yr 1 ⟨L7 ++ [E2, (8, vi 0)], [B1], H⟩ ?_
 exact ye
 refine Bs ?_
 obtain ⟨r11, hL12, hF⟩ := Ab hF
 refine Ql (fun (x : (Int × Int)) => (⟨[(3, vu x.1), E2, (8, vi x.2)], [], H⟩ : St)) (Sum.elim (fun (y : Unit) => ((.exit 0, S8) : Ex × St)) (fun (y : Unit) => ((.ret, S9) : Ex × St))) hL12 (by kernel_rfl) ?_ ?_
 rintro ⟨a3, a4⟩ o hF
 replace hF : Fq r1 a3 a4 = some o := hF
 let L6 : List EN := [(3, vu a3), E2, (8, vi a4)]
 unfold Fq at hF
 refine ysg ⟨L6 ++ [(9, vb (decide (a4 < 5)))], [], H⟩ ?_
 refine Ah ?_
 rcases Af hF with ⟨h5, hF⟩ | ⟨h5, hF⟩
 refine yT h5 ⟨L6, [], H⟩ ?_
 refine Am ?_
 refine Ah ?_
 refine Bs ?_
 refine Ah ?_
 obtain ⟨v6, h7, hF⟩ := Ab hF
 let L3 : List EN := [(5, vu v6), E2, (8, vi a4)]
 let L4 : List EN := [(3, vu a3)] ++ L3 ++ [(11, vu v6), (12, vu a3)]
 let L5 : List EN := L4 ++ [(13, vF), (14, vF), (15, vu v6), (16, vu (Int.tmod v6 4))]
 refine Ak ⟨[(3, vu a3)] ++ L3, [], H⟩ ?_ ?_
 refine Aj ⟨L6 ++ [(10, vu v6)], [], H⟩ (pP (X := X) (⟨L6, [], H⟩ : St) 72 35 5 h7 (fun q => .int .u32 q) .i64 (arM .u32 5 r1) (some 10) (by kernel_rfl) (by kernel_rfl) (by kernel_rfl) (by kernel_rfl) (by kernel_rfl) (by kernel_rfl)) ?_
 refine yr 1 ⟨[(3, vu a3)] ++ L3 ++ [(10, vu v6)], [], H⟩ ?_
 exact ye
 refine Ah ?_
 refine yso ⟨L3 ++ [(22, vb ((decide (v6 < a3)) || (((Int.tmod v6 4) != 0) || (decide (v6 > 1048576)))))], [], H⟩ ?_ ?_
 refine yr 4 ⟨L4 ++ [(13, vb (decide (v6 < a3))), (14, vb (decide (v6 < a3)))], [], H⟩ ?_
 rcases Aw (decide (v6 < a3)) with h8 | h8
 refine Bc (congrArg (fun q => (⟨L4 ++ [(13, vb q), (14, vb q)], [], H⟩ : St)) h8) ?_
 refine yr 8 ⟨L4 ++ [(13, vT), (14, vT), (15, vN), (16, vN), (17, vN), (18, vT), (19, vT), (20, vN), (21, vN), (22, vT)], [], H⟩ ?_
 refine Bw (congrArg (fun q0 => (⟨L3 ++ [(22, vb q0)], [], H⟩ : St)) (show true = ((decide (v6 < a3)) || (((Int.tmod v6 4) != 0) || (decide (v6 > 1048576)))) by simp [h8])) ?_
 exact ye
 refine Bc (congrArg (fun q => (⟨L4 ++ [(13, vb q), (14, vb q)], [], H⟩ : St)) h8) ?_
 refine yr 5 ⟨L5 ++ [(17, vb ((Int.tmod v6 4) != 0)), (18, vb ((Int.tmod v6 4) != 0)), (19, vb ((Int.tmod v6 4) != 0))], [], H⟩ ?_
 rcases Aw ((Int.tmod v6 4) != 0) with h9 | h9
 refine Bc (congrArg (fun q => (⟨L5 ++ [(17, vb q), (18, vb q), (19, vb q)], [], H⟩ : St)) h9) ?_
 refine yr 3 ⟨L5 ++ [(17, vT), (18, vT), (19, vT), (20, vN), (21, vN), (22, vT)], [], H⟩ ?_
 refine Bw (congrArg (fun q0 => (⟨L3 ++ [(22, vb q0)], [], H⟩ : St)) (show true = ((decide (v6 < a3)) || (((Int.tmod v6 4) != 0) || (decide (v6 > 1048576)))) by simp [h8, h9])) ?_
 exact ye
 refine Bc (congrArg (fun q => (⟨L5 ++ [(17, vb q), (18, vb q), (19, vb q)], [], H⟩ : St)) h9) ?_
 refine yr 3 ⟨L5 ++ [(17, vF), (18, vF), (19, vF), (20, vu v6), (21, vb (decide (v6 > 1048576))), (22, vb (decide (v6 > 1048576)))], [], H⟩ ?_
 refine Bw (congrArg (fun q0 => (⟨L3 ++ [(22, vb q0)], [], H⟩ : St)) (show (decide (v6 > 1048576)) = ((decide (v6 < a3)) || (((Int.tmod v6 4) != 0) || (decide (v6 > 1048576)))) by simp [h8, h9])) ?_
 exact ye
 rcases Af hF with ⟨h10, hF⟩ | ⟨h10, hF⟩
 refine yT h10 S8 ?_
 refine ysg S9 ?_
 refine As ?_
 cases hF
 exact ⟨_, rfl, (by kernel_rfl)⟩
 refine yF h10 ⟨L3, [], H⟩ ?_
 refine Am ?_
 refine yg ⟨[(3, vu v6), E2, (8, vi a4)], [], H⟩ ?_
 refine yg ⟨[(3, vu v6), E2, (8, vi (IntKind.wrap .i64 (a4 + 1)))], [], H⟩ ?_
 cases hF
 exact ⟨_, rfl, (by kernel_rfl)⟩
 refine yF h5 S8 ?_
 refine Pg ?_
 cases hF
 exact ⟨_, rfl, (by kernel_rfl)⟩
 rcases Rl hF with ⟨r11', rfl, hF⟩ | ⟨r11', rfl, hF⟩
 refine bQ (i := 0) (s := S8) (by kernel_rfl) ?_
 refine Qj ?_
 refine ysg ⟨[(2, vT)], [], H⟩ ?_
 refine As ?_
 obtain e0 := Al hF
 subst e0
 exact yp (vT)
 refine lT (s := S9) (by kernel_rfl) ?_
 obtain e0 := Al hF
 subst e0
 exact yp (vF)
noncomputable def Kw (H : Ai) (p0 : T_memory_Layout) : Option (Ai × Ptr × Int) :=
  Ag (Ls p0) fun r1 =>
  if (!r1) = true then (some (H, Ptr.nil, 33))
  else (Ag (mks 4 (IntKind.wrap .u32 (Int.tdiv p0.Stack_ 4)) (IntKind.wrap .u32 (Int.tdiv p0.Stack_ 4)) 0) fun v4 =>
  bnd H.length fun i7 =>
  bnd (Dk H (T_memory_Mem.mk p0 v4)) fun H6 =>
  some (H6, (Ptr.at i7 0), 0))
theorem Sw (H : Ai) {p0 : T_memory_Layout} {ra : Ptr} {rb : Int} {Hr : Ai} (hF : Kw H p0 = some (Hr, ra, rb)) : evS X 87 [.agg (A9 p0)] H = some (.tup [.one .top (Ptr.av ra), .one .top (.int .i64 rb)], Hr) := by
 let E1 : EN := (1, vl 1 0)
 let B2 : EB := (1, (A9 p0))
 let E3 : EN := (4, .agg (A9 p0))
 let E4 : EN := (7, .agg (A9 p0))
 let E5 : EN := (11, .one .top .junk)
 let E6 : EN := (12, .agg [(.top, .int .u32 p0.Code_), (.top, .int .u32 p0.Tables_), (.top, .int .u32 p0.Data_), (.top, .int .u32 p0.Heap_), (.top, .int .u32 p0.Stack_), (.top, .junk)])
 let E7 : EN := (10, vu (IntKind.wrap .u32 (Int.tdiv p0.Stack_ 4)))
 let L8 : List EN := [E4, (8, vl 1 4), (9, vu p0.Stack_)]
 let L9 : List EN := [E1] ++ L8 ++ [E7]
 refine yf Try.func87 false ⟨[(0, .agg (A9 p0))], [], H⟩ ?_
 unfold Kw at hF
 refine ysg ⟨[E1], [B2], H⟩ ?_
 refine Ah ?_
 refine Ah ?_
 obtain ⟨r1, c2, hF⟩ := Ab hF
 refine Ak ⟨[E1, (6, vb (!r1))], [B2], H⟩ ?_ ?_
 refine yr 1 ⟨[E1, E3], [B2], H⟩ ?_
 refine Aj ⟨[E1, E3, (5, vb r1)], [B2], H⟩ (yc (some 5) true false (⟨[E1, E3], [B2], H⟩ : St) (Vz H c2)) ?_
 refine yr 1 ⟨[E1, E3, (5, vb r1), (6, vb (!r1))], [B2], H⟩ ?_
 exact ye
 rcases Af hF with ⟨h3, hF⟩ | ⟨h3, hF⟩
 refine yT h3 ⟨[], [], H⟩ ?_
 refine ysg ⟨[(2, .one .top .nilp), (3, vi 33)], [], H⟩ ?_
 refine As ?_
 obtain ⟨e0, e1, e2⟩ := U4 hF
 subst e0
 subst e1
 subst e2
 exact yi (.tup [.one .top .nilp, vi 33])
 refine yF h3 ⟨[E1], [B2], H⟩ ?_
 refine Am ?_
 refine Ah ?_
 obtain ⟨v4, h5, hF⟩ := Ab hF
 obtain ⟨i7, h9, hF⟩ := Ci hF
 obtain ⟨H6, h8, hF⟩ := Ci hF
 refine Bn (.take 0 (.take 1 (.take 2 (.take 3 (.last 4 (.take 5 (.last 6 (.take 7 (.take 8 .done))))))))) (by kernel_rfl) (⟨[(2, vo i7 0), (3, vi 0)], [], H6⟩ : St) ?_ ?_
 refine ydk 4 ⟨L9, [B2], H⟩ ?_
 refine Bo ⟨L9 ++ [(11, .one (.own 1) (.sl 1 (List.map (eI .u32) v4)))], [B2], H⟩ (iF (X := X) (⟨L9, [B2], H⟩ : St) 4 h5 42 35 1 [(.top, .int .u32 0)] (eI .u32) 0 (.u32) (.u32) (some 11) (by kernel_rfl) (by kernel_rfl) (by kernel_rfl) (by kernel_rfl) (by kernel_rfl) (by kernel_rfl) (by kernel_rfl) (by kernel_rfl) (by kernel_rfl) (by kernel_rfl)) ?_
 refine ydt ⟨L9 ++ [E5, (12, .agg [(.top, .int .u32 p0.Code_), (.top, .int .u32 p0.Tables_), (.top, .int .u32 p0.Data_), (.top, .int .u32 p0.Heap_), (.top, .int .u32 p0.Stack_), ((.own 1), .sl 1 (List.map (eI .u32) v4))])], [B2], H⟩ ?_
 refine ydl ⟨L9 ++ [E5, E6, (13, vo H.length 0)], [B2], (H ++ [[(.top, .int .u32 p0.Code_), (.top, .int .u32 p0.Tables_), (.top, .int .u32 p0.Data_), (.top, .int .u32 p0.Heap_), (.top, .int .u32 p0.Stack_), ((.own 1), .sl 1 (List.map (eI .u32) v4))]])⟩ ?_
 refine Fe (fP (fun q u => (⟨L9 ++ [E5, E6, (13, vo q 0)], [B2], u⟩ : St)) h9 h8) ?_
 refine ydk 2 ⟨[E1, (2, vo i7 0), (3, vi 0)] ++ L8 ++ [E7, E5, E6, (13, vo i7 0)], [B2], H6⟩ ?_
 exact yde
 refine As ?_
 obtain ⟨e0, e1, e2⟩ := U4 hF
 subst e0
 subst e1
 subst e2
 exact yi (.tup [vo i7 0, vi 0])
noncomputable def Jn (p0 : Int) (j14 : Bool) : Option (Int) :=
  if j14 = true then (some 7)
  else (if (p0 == 28) = true then (some 8)
  else (some (-1)))
noncomputable def Jo (p0 : Int) (j12 : Bool) : Option (Int) :=
  if j12 = true then (some 6)
  else (if (p0 == 22) = true then (Jn p0 (p0 == 22))
  else (Jn p0 (p0 == 23)))
noncomputable def Jp (p0 : Int) (j19 : Bool) : Option (Int) :=
  Jo p0 j19
noncomputable def Jq (p0 : Int) (j21 : Bool) : Option (Int) :=
  Jp p0 j21
noncomputable def Hp (p0 : Int) (j23 : Bool) : Option (Int) :=
  Jq p0 j23
noncomputable def Hq (p0 : Int) (j25 : Bool) : Option (Int) :=
  Hp p0 j25
noncomputable def Jr (p0 : Int) (j10 : Bool) : Option (Int) :=
  if j10 = true then (some 5)
  else (if (p0 == 24) = true then (Jo p0 (p0 == 24))
  else (if (p0 == 25) = true then (Jp p0 (p0 == 25))
  else (if (p0 == 27) = true then (Jq p0 (p0 == 27))
  else (if (p0 == 29) = true then (Hp p0 (p0 == 29))
  else (if (p0 == 31) = true then (Hq p0 (p0 == 31))
  else (Hq p0 (p0 == 32)))))))
noncomputable def Hs (p0 : Int) (j28 : Bool) : Option (Int) :=
  Jr p0 j28
noncomputable def Ht (p0 : Int) (j30 : Bool) : Option (Int) :=
  Hs p0 j30
noncomputable def Hu (p0 : Int) (j32 : Bool) : Option (Int) :=
  Ht p0 j32
noncomputable def Hv (p0 : Int) (j34 : Bool) : Option (Int) :=
  Hu p0 j34
noncomputable def Hw (p0 : Int) (j36 : Bool) : Option (Int) :=
  Hv p0 j36
noncomputable def Hx (p0 : Int) (j38 : Bool) : Option (Int) :=
  Hw p0 j38
noncomputable def Hy (p0 : Int) (j40 : Bool) : Option (Int) :=
  Hx p0 j40
noncomputable def Hz (p0 : Int) (j42 : Bool) : Option (Int) :=
  Hy p0 j42
noncomputable def Ia (p0 : Int) (j44 : Bool) : Option (Int) :=
  Hz p0 j44
noncomputable def Ib (p0 : Int) (j46 : Bool) : Option (Int) :=
  Ia p0 j46
noncomputable def Js (p0 : Int) (j8 : Bool) : Option (Int) :=
  if j8 = true then (some 4)
  else (if (p0 == 6) = true then (Jr p0 (p0 == 6))
  else (if (p0 == 7) = true then (Hs p0 (p0 == 7))
  else (if (p0 == 8) = true then (Ht p0 (p0 == 8))
  else (if (p0 == 9) = true then (Hu p0 (p0 == 9))
  else (if (p0 == 10) = true then (Hv p0 (p0 == 10))
  else (if (p0 == 11) = true then (Hw p0 (p0 == 11))
  else (if (p0 == 12) = true then (Hx p0 (p0 == 12))
  else (if (p0 == 13) = true then (Hy p0 (p0 == 13))
  else (if (p0 == 14) = true then (Hz p0 (p0 == 14))
  else (if (p0 == 15) = true then (Ia p0 (p0 == 15))
  else (if (p0 == 16) = true then (Ib p0 (p0 == 16))
  else (Ib p0 (p0 == 17)))))))))))))
noncomputable def Ic (p0 : Int) (j49 : Bool) : Option (Int) :=
  Js p0 j49
noncomputable def Jt (p0 : Int) (j6 : Bool) : Option (Int) :=
  if j6 = true then (some 3)
  else (if (p0 == 4) = true then (Js p0 (p0 == 4))
  else (if (p0 == 34) = true then (Ic p0 (p0 == 34))
  else (Ic p0 (p0 == 26))))
noncomputable def Id (p0 : Int) (j52 : Bool) : Option (Int) :=
  Jt p0 j52
noncomputable def Ju (p0 : Int) (j4 : Bool) : Option (Int) :=
  if j4 = true then (some 2)
  else (if (p0 == 5) = true then (Jt p0 (p0 == 5))
  else (if (p0 == 18) = true then (Id p0 (p0 == 18))
  else (Id p0 (p0 == 19))))
noncomputable def Ie (p0 : Int) (j55 : Bool) : Option (Int) :=
  Ju p0 j55
noncomputable def Jv (p0 : Int) (j2 : Bool) : Option (Int) :=
  if j2 = true then (some 1)
  else (if (p0 == 3) = true then (Ju p0 (p0 == 3))
  else (if (p0 == 30) = true then (Ie p0 (p0 == 30))
  else (Ie p0 (p0 == 33))))
noncomputable def If (p0 : Int) (j58 : Bool) : Option (Int) :=
  Jv p0 j58
noncomputable def D3  (p0 : Int) : Option (Int) :=
  if (p0 == 1) = true then (some 0)
  else (if (p0 == 2) = true then (Jv p0 (p0 == 2))
  else (if (p0 == 20) = true then (If p0 (p0 == 20))
  else (If p0 (p0 == 21))))
theorem Lt (H : Ai) {p0 : Int} {ra : Int} (hF : D3 p0 = some ra) : evS X 102 [.one .top (.int .i64 p0)] H = some (.one .top (.int .i64 ra), H) := by
 let E1 : EN := (3, vi p0)
 let S2 : St := ⟨[E1], [], H⟩
 let S3 : St := ⟨[], [], H⟩
 let S4 : St := ⟨[E1, (6, vb (p0 == 2))], [], H⟩
 let S5 : St := ⟨[E1, (10, vb (p0 == 3))], [], H⟩
 let S6 : St := ⟨[E1, (14, vb (p0 == 5))], [], H⟩
 let S7 : St := ⟨[E1, (18, vb (p0 == 4))], [], H⟩
 let S8 : St := ⟨[E1, (22, vb (p0 == 6))], [], H⟩
 let S9 : St := ⟨[E1, (35, vb (p0 == 24))], [], H⟩
 let S10 : St := ⟨[E1, (42, vb (p0 == 22))], [], H⟩
 let S11 : St := ⟨[E1, (35, vb (p0 == 25))], [], H⟩
 let S12 : St := ⟨[E1, (35, vb (p0 == 27))], [], H⟩
 let S13 : St := ⟨[E1, (35, vb (p0 == 29))], [], H⟩
 let S14 : St := ⟨[E1, (35, vb (p0 == 31))], [], H⟩
 let S15 : St := ⟨[E1, (22, vb (p0 == 7))], [], H⟩
 let S16 : St := ⟨[E1, (22, vb (p0 == 8))], [], H⟩
 let S17 : St := ⟨[E1, (22, vb (p0 == 9))], [], H⟩
 let S18 : St := ⟨[E1, (22, vb (p0 == 10))], [], H⟩
 let S19 : St := ⟨[E1, (22, vb (p0 == 11))], [], H⟩
 let S20 : St := ⟨[E1, (22, vb (p0 == 12))], [], H⟩
 let S21 : St := ⟨[E1, (22, vb (p0 == 13))], [], H⟩
 let S22 : St := ⟨[E1, (22, vb (p0 == 14))], [], H⟩
 let S23 : St := ⟨[E1, (22, vb (p0 == 15))], [], H⟩
 let S24 : St := ⟨[E1, (22, vb (p0 == 16))], [], H⟩
 let S25 : St := ⟨[E1, (18, vb (p0 == 34))], [], H⟩
 let S26 : St := ⟨[E1, (14, vb (p0 == 18))], [], H⟩
 let S27 : St := ⟨[E1, (10, vb (p0 == 30))], [], H⟩
 let S28 : St := ⟨[E1, (6, vb (p0 == 20))], [], H⟩
 refine yf Try.func102 true ⟨[(0, vi p0)], [], H⟩ ?_
 unfold D3 at hF
 refine ysg ⟨[(0, vi p0)], [], H⟩ ?_
 refine Ah ?_
 refine ysg S2 ?_
 refine Bs ?_
 refine ysg ⟨[E1, (4, vb (p0 == 1))], [], H⟩ ?_
 rcases Af hF with ⟨h1, hF⟩ | ⟨h1, hF⟩
 refine yT h1 S3 ?_
 refine ysg ⟨[(2, vi 0)], [], H⟩ ?_
 refine As ?_
 obtain e0 := Al hF
 subst e0
 exact yp (vi 0)
 refine yF h1 S2 ?_
 refine Ah ?_
 refine ysg S4 ?_
 refine Ar (α := (Bool)) (fun x => (⟨[E1, (6, vb x)], [], H⟩ : St)) (fun x => Jv p0 x = some ra) ?_ ?_
 rintro j2 hF
 replace hF : Jv p0 j2 = some ra := hF
 unfold Jv at hF
 rcases Af hF with ⟨h3, hF⟩ | ⟨h3, hF⟩
 refine yT h3 S3 ?_
 refine ysg ⟨[(2, vi 1)], [], H⟩ ?_
 refine As ?_
 obtain e0 := Al hF
 subst e0
 exact yp (vi 1)
 refine yF h3 S2 ?_
 refine Ah ?_
 refine ysg S5 ?_
 refine Ar (α := (Bool)) (fun x => (⟨[E1, (10, vb x)], [], H⟩ : St)) (fun x => Ju p0 x = some ra) ?_ ?_
 rintro j4 hF
 replace hF : Ju p0 j4 = some ra := hF
 unfold Ju at hF
 rcases Af hF with ⟨h5, hF⟩ | ⟨h5, hF⟩
 refine yT h5 S3 ?_
 refine ysg ⟨[(2, vi 2)], [], H⟩ ?_
 refine As ?_
 obtain e0 := Al hF
 subst e0
 exact yp (vi 2)
 refine yF h5 S2 ?_
 refine Ah ?_
 refine ysg S6 ?_
 refine Ar (α := (Bool)) (fun x => (⟨[E1, (14, vb x)], [], H⟩ : St)) (fun x => Jt p0 x = some ra) ?_ ?_
 rintro j6 hF
 replace hF : Jt p0 j6 = some ra := hF
 unfold Jt at hF
 rcases Af hF with ⟨h7, hF⟩ | ⟨h7, hF⟩
 refine yT h7 S3 ?_
 refine ysg ⟨[(2, vi 3)], [], H⟩ ?_
 refine As ?_
 obtain e0 := Al hF
 subst e0
 exact yp (vi 3)
 refine yF h7 S2 ?_
 refine Ah ?_
 refine ysg S7 ?_
 refine Ar (α := (Bool)) (fun x => (⟨[E1, (18, vb x)], [], H⟩ : St)) (fun x => Js p0 x = some ra) ?_ ?_
 rintro j8 hF
 replace hF : Js p0 j8 = some ra := hF
 unfold Js at hF
 rcases Af hF with ⟨h9, hF⟩ | ⟨h9, hF⟩
 refine yT h9 S3 ?_
 refine ysg ⟨[(2, vi 4)], [], H⟩ ?_
 refine As ?_
 obtain e0 := Al hF
 subst e0
 exact yp (vi 4)
 refine yF h9 S2 ?_
 refine Ah ?_
 refine ysg S8 ?_
 refine Ar (α := (Bool)) (fun x => (⟨[E1, (22, vb x)], [], H⟩ : St)) (fun x => Jr p0 x = some ra) ?_ ?_
 rintro j10 hF
 replace hF : Jr p0 j10 = some ra := hF
 unfold Jr at hF
 rcases Af hF with ⟨h11, hF⟩ | ⟨h11, hF⟩
 refine yT h11 S3 ?_
 refine ysg ⟨[(2, vi 5)], [], H⟩ ?_
 refine As ?_
 obtain e0 := Al hF
 subst e0
 exact yp (vi 5)
 refine yF h11 S2 ?_
 refine Ah ?_
 refine ysg S9 ?_
 refine Ar (α := (Bool)) (fun x => (⟨[E1, (35, vb x)], [], H⟩ : St)) (fun x => Jo p0 x = some ra) ?_ ?_
 rintro j12 hF
 replace hF : Jo p0 j12 = some ra := hF
 unfold Jo at hF
 rcases Af hF with ⟨h13, hF⟩ | ⟨h13, hF⟩
 refine yT h13 S3 ?_
 refine ysg ⟨[(2, vi 6)], [], H⟩ ?_
 refine As ?_
 obtain e0 := Al hF
 subst e0
 exact yp (vi 6)
 refine yF h13 S2 ?_
 refine Ah ?_
 refine ysg S10 ?_
 refine Ar (α := (Bool)) (fun x => (⟨[E1, (42, vb x)], [], H⟩ : St)) (fun x => Jn p0 x = some ra) ?_ ?_
 rintro j14 hF
 replace hF : Jn p0 j14 = some ra := hF
 unfold Jn at hF
 rcases Af hF with ⟨h15, hF⟩ | ⟨h15, hF⟩
 refine yT h15 S3 ?_
 refine ysg ⟨[(2, vi 7)], [], H⟩ ?_
 refine As ?_
 obtain e0 := Al hF
 subst e0
 exact yp (vi 7)
 refine yF h15 S2 ?_
 refine ysg ⟨[(45, vb (p0 == 28))], [], H⟩ ?_
 rcases Af hF with ⟨h16, hF⟩ | ⟨h16, hF⟩
 refine yT h16 S3 ?_
 refine ysg ⟨[(2, vi 8)], [], H⟩ ?_
 refine As ?_
 obtain e0 := Al hF
 subst e0
 exact yp (vi 8)
 refine yF h16 S3 ?_
 refine Am ?_
 refine ysg ⟨[(2, vi (-1))], [], H⟩ ?_
 refine As ?_
 obtain e0 := Al hF
 subst e0
 exact yp (vi (-1))
 rcases Af hF with ⟨h17, hF⟩ | ⟨h17, hF⟩
 refine yT h17 S10 ?_
 refine Am ?_
 exact ⟨(p0 == 22), hF, (by kernel_rfl)⟩
 refine yF h17 S2 ?_
 refine yg ⟨[E1, (42, vb (p0 == 23))], [], H⟩ ?_
 exact ⟨(p0 == 23), hF, (by kernel_rfl)⟩
 rcases Af hF with ⟨h18, hF⟩ | ⟨h18, hF⟩
 refine yT h18 S9 ?_
 refine Am ?_
 exact ⟨(p0 == 24), hF, (by kernel_rfl)⟩
 refine yF h18 S2 ?_
 refine ysg S11 ?_
 refine Ar (α := (Bool)) (fun x => (⟨[E1, (35, vb x)], [], H⟩ : St)) (fun x => Jp p0 x = some ra) ?_ ?_
 rintro j19 hF
 replace hF : Jp p0 j19 = some ra := hF
 unfold Jp at hF
 exact ⟨j19, hF, (by kernel_rfl)⟩
 rcases Af hF with ⟨h20, hF⟩ | ⟨h20, hF⟩
 refine yT h20 S11 ?_
 refine Am ?_
 exact ⟨(p0 == 25), hF, (by kernel_rfl)⟩
 refine yF h20 S2 ?_
 refine ysg S12 ?_
 refine Ar (α := (Bool)) (fun x => (⟨[E1, (35, vb x)], [], H⟩ : St)) (fun x => Jq p0 x = some ra) ?_ ?_
 rintro j21 hF
 replace hF : Jq p0 j21 = some ra := hF
 unfold Jq at hF
 exact ⟨j21, hF, (by kernel_rfl)⟩
 rcases Af hF with ⟨h22, hF⟩ | ⟨h22, hF⟩
 refine yT h22 S12 ?_
 refine Am ?_
 exact ⟨(p0 == 27), hF, (by kernel_rfl)⟩
 refine yF h22 S2 ?_
 refine ysg S13 ?_
 refine Ar (α := (Bool)) (fun x => (⟨[E1, (35, vb x)], [], H⟩ : St)) (fun x => Hp p0 x = some ra) ?_ ?_
 rintro j23 hF
 replace hF : Hp p0 j23 = some ra := hF
 unfold Hp at hF
 exact ⟨j23, hF, (by kernel_rfl)⟩
 rcases Af hF with ⟨h24, hF⟩ | ⟨h24, hF⟩
 refine yT h24 S13 ?_
 refine Am ?_
 exact ⟨(p0 == 29), hF, (by kernel_rfl)⟩
 refine yF h24 S2 ?_
 refine ysg S14 ?_
 refine Ar (α := (Bool)) (fun x => (⟨[E1, (35, vb x)], [], H⟩ : St)) (fun x => Hq p0 x = some ra) ?_ ?_
 rintro j25 hF
 replace hF : Hq p0 j25 = some ra := hF
 unfold Hq at hF
 exact ⟨j25, hF, (by kernel_rfl)⟩
 rcases Af hF with ⟨h26, hF⟩ | ⟨h26, hF⟩
 refine yT h26 S14 ?_
 refine Am ?_
 exact ⟨(p0 == 31), hF, (by kernel_rfl)⟩
 refine yF h26 S2 ?_
 refine yg ⟨[E1, (35, vb (p0 == 32))], [], H⟩ ?_
 exact ⟨(p0 == 32), hF, (by kernel_rfl)⟩
 rcases Af hF with ⟨h27, hF⟩ | ⟨h27, hF⟩
 refine yT h27 S8 ?_
 refine Am ?_
 exact ⟨(p0 == 6), hF, (by kernel_rfl)⟩
 refine yF h27 S2 ?_
 refine ysg S15 ?_
 refine Ar (α := (Bool)) (fun x => (⟨[E1, (22, vb x)], [], H⟩ : St)) (fun x => Hs p0 x = some ra) ?_ ?_
 rintro j28 hF
 replace hF : Hs p0 j28 = some ra := hF
 unfold Hs at hF
 exact ⟨j28, hF, (by kernel_rfl)⟩
 rcases Af hF with ⟨h29, hF⟩ | ⟨h29, hF⟩
 refine yT h29 S15 ?_
 refine Am ?_
 exact ⟨(p0 == 7), hF, (by kernel_rfl)⟩
 refine yF h29 S2 ?_
 refine ysg S16 ?_
 refine Ar (α := (Bool)) (fun x => (⟨[E1, (22, vb x)], [], H⟩ : St)) (fun x => Ht p0 x = some ra) ?_ ?_
 rintro j30 hF
 replace hF : Ht p0 j30 = some ra := hF
 unfold Ht at hF
 exact ⟨j30, hF, (by kernel_rfl)⟩
 rcases Af hF with ⟨h31, hF⟩ | ⟨h31, hF⟩
 refine yT h31 S16 ?_
 refine Am ?_
 exact ⟨(p0 == 8), hF, (by kernel_rfl)⟩
 refine yF h31 S2 ?_
 refine ysg S17 ?_
 refine Ar (α := (Bool)) (fun x => (⟨[E1, (22, vb x)], [], H⟩ : St)) (fun x => Hu p0 x = some ra) ?_ ?_
 rintro j32 hF
 replace hF : Hu p0 j32 = some ra := hF
 unfold Hu at hF
 exact ⟨j32, hF, (by kernel_rfl)⟩
 rcases Af hF with ⟨h33, hF⟩ | ⟨h33, hF⟩
 refine yT h33 S17 ?_
 refine Am ?_
 exact ⟨(p0 == 9), hF, (by kernel_rfl)⟩
 refine yF h33 S2 ?_
 refine ysg S18 ?_
 refine Ar (α := (Bool)) (fun x => (⟨[E1, (22, vb x)], [], H⟩ : St)) (fun x => Hv p0 x = some ra) ?_ ?_
 rintro j34 hF
 replace hF : Hv p0 j34 = some ra := hF
 unfold Hv at hF
 exact ⟨j34, hF, (by kernel_rfl)⟩
 rcases Af hF with ⟨h35, hF⟩ | ⟨h35, hF⟩
 refine yT h35 S18 ?_
 refine Am ?_
 exact ⟨(p0 == 10), hF, (by kernel_rfl)⟩
 refine yF h35 S2 ?_
 refine ysg S19 ?_
 refine Ar (α := (Bool)) (fun x => (⟨[E1, (22, vb x)], [], H⟩ : St)) (fun x => Hw p0 x = some ra) ?_ ?_
 rintro j36 hF
 replace hF : Hw p0 j36 = some ra := hF
 unfold Hw at hF
 exact ⟨j36, hF, (by kernel_rfl)⟩
 rcases Af hF with ⟨h37, hF⟩ | ⟨h37, hF⟩
 refine yT h37 S19 ?_
 refine Am ?_
 exact ⟨(p0 == 11), hF, (by kernel_rfl)⟩
 refine yF h37 S2 ?_
 refine ysg S20 ?_
 refine Ar (α := (Bool)) (fun x => (⟨[E1, (22, vb x)], [], H⟩ : St)) (fun x => Hx p0 x = some ra) ?_ ?_
 rintro j38 hF
 replace hF : Hx p0 j38 = some ra := hF
 unfold Hx at hF
 exact ⟨j38, hF, (by kernel_rfl)⟩
 rcases Af hF with ⟨h39, hF⟩ | ⟨h39, hF⟩
 refine yT h39 S20 ?_
 refine Am ?_
 exact ⟨(p0 == 12), hF, (by kernel_rfl)⟩
 refine yF h39 S2 ?_
 refine ysg S21 ?_
 refine Ar (α := (Bool)) (fun x => (⟨[E1, (22, vb x)], [], H⟩ : St)) (fun x => Hy p0 x = some ra) ?_ ?_
 rintro j40 hF
 replace hF : Hy p0 j40 = some ra := hF
 unfold Hy at hF
 exact ⟨j40, hF, (by kernel_rfl)⟩
 rcases Af hF with ⟨h41, hF⟩ | ⟨h41, hF⟩
 refine yT h41 S21 ?_
 refine Am ?_
 exact ⟨(p0 == 13), hF, (by kernel_rfl)⟩
 refine yF h41 S2 ?_
 refine ysg S22 ?_
 refine Ar (α := (Bool)) (fun x => (⟨[E1, (22, vb x)], [], H⟩ : St)) (fun x => Hz p0 x = some ra) ?_ ?_
 rintro j42 hF
 replace hF : Hz p0 j42 = some ra := hF
 unfold Hz at hF
 exact ⟨j42, hF, (by kernel_rfl)⟩
 rcases Af hF with ⟨h43, hF⟩ | ⟨h43, hF⟩
 refine yT h43 S22 ?_
 refine Am ?_
 exact ⟨(p0 == 14), hF, (by kernel_rfl)⟩
 refine yF h43 S2 ?_
 refine ysg S23 ?_
 refine Ar (α := (Bool)) (fun x => (⟨[E1, (22, vb x)], [], H⟩ : St)) (fun x => Ia p0 x = some ra) ?_ ?_
 rintro j44 hF
 replace hF : Ia p0 j44 = some ra := hF
 unfold Ia at hF
 exact ⟨j44, hF, (by kernel_rfl)⟩
 rcases Af hF with ⟨h45, hF⟩ | ⟨h45, hF⟩
 refine yT h45 S23 ?_
 refine Am ?_
 exact ⟨(p0 == 15), hF, (by kernel_rfl)⟩
 refine yF h45 S2 ?_
 refine ysg S24 ?_
 refine Ar (α := (Bool)) (fun x => (⟨[E1, (22, vb x)], [], H⟩ : St)) (fun x => Ib p0 x = some ra) ?_ ?_
 rintro j46 hF
 replace hF : Ib p0 j46 = some ra := hF
 unfold Ib at hF
 exact ⟨j46, hF, (by kernel_rfl)⟩
 rcases Af hF with ⟨h47, hF⟩ | ⟨h47, hF⟩
 refine yT h47 S24 ?_
 refine Am ?_
 exact ⟨(p0 == 16), hF, (by kernel_rfl)⟩
 refine yF h47 S2 ?_
 refine yg ⟨[E1, (22, vb (p0 == 17))], [], H⟩ ?_
 exact ⟨(p0 == 17), hF, (by kernel_rfl)⟩
 rcases Af hF with ⟨h48, hF⟩ | ⟨h48, hF⟩
 refine yT h48 S7 ?_
 refine Am ?_
 exact ⟨(p0 == 4), hF, (by kernel_rfl)⟩
 refine yF h48 S2 ?_
 refine ysg S25 ?_
 refine Ar (α := (Bool)) (fun x => (⟨[E1, (18, vb x)], [], H⟩ : St)) (fun x => Ic p0 x = some ra) ?_ ?_
 rintro j49 hF
 replace hF : Ic p0 j49 = some ra := hF
 unfold Ic at hF
 exact ⟨j49, hF, (by kernel_rfl)⟩
 rcases Af hF with ⟨h50, hF⟩ | ⟨h50, hF⟩
 refine yT h50 S25 ?_
 refine Am ?_
 exact ⟨(p0 == 34), hF, (by kernel_rfl)⟩
 refine yF h50 S2 ?_
 refine yg ⟨[E1, (18, vb (p0 == 26))], [], H⟩ ?_
 exact ⟨(p0 == 26), hF, (by kernel_rfl)⟩
 rcases Af hF with ⟨h51, hF⟩ | ⟨h51, hF⟩
 refine yT h51 S6 ?_
 refine Am ?_
 exact ⟨(p0 == 5), hF, (by kernel_rfl)⟩
 refine yF h51 S2 ?_
 refine ysg S26 ?_
 refine Ar (α := (Bool)) (fun x => (⟨[E1, (14, vb x)], [], H⟩ : St)) (fun x => Id p0 x = some ra) ?_ ?_
 rintro j52 hF
 replace hF : Id p0 j52 = some ra := hF
 unfold Id at hF
 exact ⟨j52, hF, (by kernel_rfl)⟩
 rcases Af hF with ⟨h53, hF⟩ | ⟨h53, hF⟩
 refine yT h53 S26 ?_
 refine Am ?_
 exact ⟨(p0 == 18), hF, (by kernel_rfl)⟩
 refine yF h53 S2 ?_
 refine yg ⟨[E1, (14, vb (p0 == 19))], [], H⟩ ?_
 exact ⟨(p0 == 19), hF, (by kernel_rfl)⟩
 rcases Af hF with ⟨h54, hF⟩ | ⟨h54, hF⟩
 refine yT h54 S5 ?_
 refine Am ?_
 exact ⟨(p0 == 3), hF, (by kernel_rfl)⟩
 refine yF h54 S2 ?_
 refine ysg S27 ?_
 refine Ar (α := (Bool)) (fun x => (⟨[E1, (10, vb x)], [], H⟩ : St)) (fun x => Ie p0 x = some ra) ?_ ?_
 rintro j55 hF
 replace hF : Ie p0 j55 = some ra := hF
 unfold Ie at hF
 exact ⟨j55, hF, (by kernel_rfl)⟩
 rcases Af hF with ⟨h56, hF⟩ | ⟨h56, hF⟩
 refine yT h56 S27 ?_
 refine Am ?_
 exact ⟨(p0 == 30), hF, (by kernel_rfl)⟩
 refine yF h56 S2 ?_
 refine yg ⟨[E1, (10, vb (p0 == 33))], [], H⟩ ?_
 exact ⟨(p0 == 33), hF, (by kernel_rfl)⟩
 rcases Af hF with ⟨h57, hF⟩ | ⟨h57, hF⟩
 refine yT h57 S4 ?_
 refine Am ?_
 exact ⟨(p0 == 2), hF, (by kernel_rfl)⟩
 refine yF h57 S2 ?_
 refine ysg S28 ?_
 refine Ar (α := (Bool)) (fun x => (⟨[E1, (6, vb x)], [], H⟩ : St)) (fun x => If p0 x = some ra) ?_ ?_
 rintro j58 hF
 replace hF : If p0 j58 = some ra := hF
 unfold If at hF
 exact ⟨j58, hF, (by kernel_rfl)⟩
 rcases Af hF with ⟨h59, hF⟩ | ⟨h59, hF⟩
 refine yT h59 S28 ?_
 refine Am ?_
 exact ⟨(p0 == 20), hF, (by kernel_rfl)⟩
 refine yF h59 S2 ?_
 refine yg ⟨[E1, (6, vb (p0 == 21))], [], H⟩ ?_
 exact ⟨(p0 == 21), hF, (by kernel_rfl)⟩
noncomputable def Mq  (p0 : Int) : Option (Bool) :=
  some ((decide (p0 ≥ 0)) && (decide (p0 < 16)))
theorem Qq (H : Ai) {p0 : Int} {ra : Bool} (hF : Mq p0 = some ra) : evS X 132 [.one .top (.int .i64 p0)] H = some (.one .top (.bool ra), H) := by
 let E1 : EN := (0, vi p0)
 let E2 : EN := (3, vi p0)
 refine yf Try.func132 true ⟨[E1], [], H⟩ ?_
 unfold Mq at hF
 refine ysg ⟨[E1], [], H⟩ ?_
 refine yso ⟨[(2, vb ((decide (p0 ≥ 0)) && (decide (p0 < 16))))], [], H⟩ ?_ ?_
 refine yr 3 ⟨[E1, E2, (4, vb (decide (p0 ≥ 0))), (5, vb (decide (p0 ≥ 0)))], [], H⟩ ?_
 rcases Aw (decide (p0 ≥ 0)) with h1 | h1
 refine Bc (congrArg (fun q => (⟨[E1, E2, (4, vb q), (5, vb q)], [], H⟩ : St)) h1) ?_
 refine yr 4 ⟨[E1, (2, vb (decide (p0 < 16))), E2, (4, vT), (5, vT), (6, vi p0), (7, vb (decide (p0 < 16))), (8, vb (decide (p0 < 16)))], [], H⟩ ?_
 refine Bw (congrArg (fun q0 => (⟨[(2, vb q0)], [], H⟩ : St)) (show (decide (p0 < 16)) = ((decide (p0 ≥ 0)) && (decide (p0 < 16))) by simp [h1])) ?_
 exact ye
 refine Bc (congrArg (fun q => (⟨[E1, E2, (4, vb q), (5, vb q)], [], H⟩ : St)) h1) ?_
 refine yr 4 ⟨[E1, (2, vF), E2, (4, vF), (5, vF), (6, vN), (7, vN), (8, vF)], [], H⟩ ?_
 refine Bw (congrArg (fun q0 => (⟨[(2, vb q0)], [], H⟩ : St)) (show false = ((decide (p0 ≥ 0)) && (decide (p0 < 16))) by simp [h1])) ?_
 exact ye
 refine As ?_
 obtain e0 := Al hF
 subst e0
 exact yp (vb ((decide (p0 ≥ 0)) && (decide (p0 < 16))))
noncomputable def Oc  (p0 : Int) (p1 : Int) : Option (Bool) :=
  if (decide (p1 < 1)) = true then (some false)
  else (Ag (Qy .i64 (-1) (IntKind.wrap .i64 ((if 40 < p1 then 40 else p1) - 1))) fun v2 =>
  Ag (if (decide (p0 ≥ v2)) = true then (Ag (Qy .i64 1 (IntKind.wrap .i64 ((if 40 < p1 then 40 else p1) - 1))) fun v5 =>
  some (decide (p0 < v5))) else (some false)) fun w7 =>
  some w7)
theorem Uk (H : Ai) {p0 : Int} {p1 : Int} {ra : Bool} (hF : Oc p0 p1 = some ra) : evS X 67 [.one .top (.int .i64 p0), .one .top (.int .i64 p1)] H = some (.one .top (.bool ra), H) := by
 let E1 : EN := (0, vi p0)
 let E2 : EN := (5, vi (IntKind.wrap .i64 ((if 40 < p1 then 40 else p1) - 1)))
 let L3 : List EN := [E2, (11, vi p0), (12, vi (IntKind.wrap .i64 ((if 40 < p1 then 40 else p1) - 1)))]
 let L5 : List EN := [(14, vT), (15, vT), (16, vi p0), (17, vi (IntKind.wrap .i64 ((if 40 < p1 then 40 else p1) - 1)))]
 let S6 : St := ⟨[E1, (1, vi p1)], [], H⟩
 refine yf Try.func67 true S6 ?_
 unfold Oc at hF
 refine ysg S6 ?_
 refine Ah ?_
 refine ysg ⟨[E1, (1, vi p1), (7, vb (decide (p1 < 1)))], [], H⟩ ?_
 rcases Af hF with ⟨h1, hF⟩ | ⟨h1, hF⟩
 refine yT h1 ⟨[], [], H⟩ ?_
 refine ysg ⟨[(4, vF)], [], H⟩ ?_
 refine As ?_
 obtain e0 := Al hF
 subst e0
 exact yp (vF)
 refine yF h1 S6 ?_
 refine Am ?_
 refine ysg ⟨[E1, E2], [], H⟩ ?_
 refine Ah ?_
 obtain ⟨v2, h3, hF⟩ := Ab hF
 let L4 : List EN := [E1] ++ L3 ++ [(13, vi v2)]
 obtain ⟨w7, hB8, hF⟩ := Ab hF
 refine Ak ⟨[(4, vb w7)], [], H⟩ ?_ ?_
 refine yr 2 ⟨[E1] ++ L3, [], H⟩ ?_
 refine Aj ⟨L4, [], H⟩ (Mz (⟨[E1] ++ L3, [], H⟩ : St) .i64 h3 (bS (P := X.P) (ty := 3) (x := (.const (.int .i64 (-1)))) (y := (.tmp 12)) (m := .top) (m' := .top) (k := .i64) (k' := .i64) (a := (-1)) (b := (IntKind.wrap .i64 ((if 40 < p1 then 40 else p1) - 1)))) (some 13) (by kernel_rfl) (by kernel_rfl)) ?_
 refine yr 2 ⟨L4 ++ [(14, vb (decide (p0 ≥ v2))), (15, vb (decide (p0 ≥ v2)))], [], H⟩ ?_
 rcases Af hB8 with ⟨h4, hB8⟩ | ⟨h4, hB8⟩
 refine Bc (congrArg (fun q => (⟨L4 ++ [(14, vb q), (15, vb q)], [], H⟩ : St)) h4) ?_
 refine yr 2 ⟨L4 ++ L5, [], H⟩ ?_
 obtain ⟨v5, h6, hB8⟩ := Ab hB8
 refine Aj ⟨L4 ++ L5 ++ [(18, vi v5)], [], H⟩ (Mz (⟨L4 ++ L5, [], H⟩ : St) .i64 h6 (bS (P := X.P) (ty := 3) (x := (.const (.int .i64 (1)))) (y := (.tmp 17)) (m := .top) (m' := .top) (k := .i64) (k' := .i64) (a := 1) (b := (IntKind.wrap .i64 ((if 40 < p1 then 40 else p1) - 1)))) (some 18) (by kernel_rfl) (by kernel_rfl)) ?_
 refine yr 3 ⟨[E1, (4, vb (decide (p0 < v5)))] ++ L3 ++ [(13, vi v2)] ++ L5 ++ [(18, vi v5), (19, vb (decide (p0 < v5))), (20, vb (decide (p0 < v5)))], [], H⟩ ?_
 cases hB8
 exact ye
 refine Bc (congrArg (fun q => (⟨L4 ++ [(14, vb q), (15, vb q)], [], H⟩ : St)) h4) ?_
 refine yr 6 ⟨[E1, (4, vF)] ++ L3 ++ [(13, vi v2), (14, vF), (15, vF), (16, vN), (17, vN), (18, vN), (19, vN), (20, vF)], [], H⟩ ?_
 cases hB8
 exact ye
 refine As ?_
 obtain e0 := Al hF
 subst e0
 exact yp (vb w7)
noncomputable def Nd  (p0 : Int) (p1 : Int) : Option (Bool) :=
  Ag (if (decide (p1 ≥ 0)) = true then (if (decide (p0 ≥ 0)) = true then (Ag (Qy .i64 1 (if 40 < p1 then 40 else p1)) fun v3 =>
  some (decide (p0 < v3))) else (some false)) else (some false)) fun w5 =>
  some w5
theorem Y0 (H : Ai) {p0 : Int} {p1 : Int} {ra : Bool} (hF : Nd p0 p1 = some ra) : evS X 138 [.one .top (.int .i64 p0), .one .top (.int .i64 p1)] H = some (.one .top (.bool ra), H) := by
 let L1 : List EN := [(0, vi p0), (1, vi p1)]
 let L2 : List EN := L1 ++ [(5, vi p1)]
 let L3 : List EN := [(6, vT), (7, vT), (8, vi p0)]
 let L4 : List EN := [(9, vT), (10, vT), (11, vT), (12, vi p0), (13, vi p1), (14, vi (if 40 < p1 then 40 else p1))]
 let L5 : List EN := [(10, vF), (11, vF), (12, vN), (13, vN), (14, vN), (15, vN), (16, vN), (17, vF)]
 refine yf Try.func138 true ⟨L1, [], H⟩ ?_
 unfold Nd at hF
 refine ysg ⟨L1, [], H⟩ ?_
 refine Ah ?_
 obtain ⟨w5, hB6, hF⟩ := Ab hF
 refine Ak ⟨[(4, vb w5)], [], H⟩ ?_ ?_
 refine yr 3 ⟨L2 ++ [(6, vb (decide (p1 ≥ 0))), (7, vb (decide (p1 ≥ 0)))], [], H⟩ ?_
 rcases Af hB6 with ⟨h1, hB6⟩ | ⟨h1, hB6⟩
 refine Bc (congrArg (fun q => (⟨L2 ++ [(6, vb q), (7, vb q)], [], H⟩ : St)) h1) ?_
 refine yr 4 ⟨L2 ++ L3 ++ [(9, vb (decide (p0 ≥ 0))), (10, vb (decide (p0 ≥ 0))), (11, vb (decide (p0 ≥ 0)))], [], H⟩ ?_
 rcases Af hB6 with ⟨h2, hB6⟩ | ⟨h2, hB6⟩
 refine Bc (congrArg (fun q => (⟨L2 ++ L3 ++ [(9, vb q), (10, vb q), (11, vb q)], [], H⟩ : St)) h2) ?_
 refine yr 3 ⟨L2 ++ L3 ++ L4, [], H⟩ ?_
 obtain ⟨v3, h4, hB6⟩ := Ab hB6
 refine Aj ⟨L2 ++ L3 ++ L4 ++ [(15, vi v3)], [], H⟩ (Mz (⟨L2 ++ L3 ++ L4, [], H⟩ : St) .i64 h4 (bS (P := X.P) (ty := 3) (x := (.const (.int .i64 (1)))) (y := (.tmp 14)) (m := .top) (m' := .top) (k := .i64) (k' := .i64) (a := 1) (b := (if 40 < p1 then 40 else p1))) (some 15) (by kernel_rfl) (by kernel_rfl)) ?_
 refine yr 3 ⟨L1 ++ [(4, vb (decide (p0 < v3))), (5, vi p1)] ++ L3 ++ L4 ++ [(15, vi v3), (16, vb (decide (p0 < v3))), (17, vb (decide (p0 < v3)))], [], H⟩ ?_
 cases hB6
 exact ye
 refine Bc (congrArg (fun q => (⟨L2 ++ L3 ++ [(9, vb q), (10, vb q), (11, vb q)], [], H⟩ : St)) h2) ?_
 refine yr 7 ⟨L1 ++ [(4, vF), (5, vi p1)] ++ L3 ++ [(9, vF)] ++ L5, [], H⟩ ?_
 cases hB6
 exact ye
 refine Bc (congrArg (fun q => (⟨L2 ++ [(6, vb q), (7, vb q)], [], H⟩ : St)) h1) ?_
 refine yr 11 ⟨L1 ++ [(4, vF), (5, vi p1), (6, vF), (7, vF), (8, vN), (9, vN)] ++ L5, [], H⟩ ?_
 cases hB6
 exact ye
 refine As ?_
 obtain e0 := Al hF
 subst e0
 exact yp (vb w5)
noncomputable def Kc (p0 : T_instr_Instr) (p1 : Int) (j5 : Bool) : Option (Bool) :=
  if j5 = true then (Ag (Nd p0.Imm_ 16) fun r7 =>
  some r7)
  else (if (p1 == 7) = true then (Ag (Oc p0.Imm_ 24) fun r10 =>
  some r10)
  else (some (p0.Imm_ == 0)))
noncomputable def Kd (p0 : T_instr_Instr) (p1 : Int) (j13 : Bool) : Option (Bool) :=
  Kc p0 p1 j13
noncomputable def Ke (p0 : T_instr_Instr) (p1 : Int) (j1 : Bool) : Option (Bool) :=
  if j1 = true then (Ag (Oc p0.Imm_ 16) fun r3 =>
  some r3)
  else (if (p1 == 2) = true then (Kc p0 p1 (p1 == 2))
  else (if (p1 == 4) = true then (Kd p0 p1 (p1 == 4))
  else (Kd p0 p1 (p1 == 8))))
noncomputable def P3  (p0 : T_instr_Instr) (p1 : Int) : Option (Bool) :=
  if (p1 == 1) = true then (Ke p0 p1 (p1 == 1))
  else (Ke p0 p1 (p1 == 3))
theorem bV (H : Ai) {p0 : T_instr_Instr} {p1 : Int} {ra : Bool} (hF : P3 p0 p1 = some ra) : evS X 133 [.agg (Aq p0), .one .top (.int .i64 p1)] H = some (.one .top (.bool ra), H) := by
 let E1 : EN := (2, vl 2 0)
 let B2 : EB := (2, (Aq p0))
 let E3 : EN := (9, vl 2 4)
 let E4 : EN := (10, vi p0.Imm_)
 let E5 : EN := (16, vl 2 4)
 let E6 : EN := (17, vi p0.Imm_)
 let E7 : EN := (21, vl 2 4)
 let E8 : EN := (22, vi p0.Imm_)
 let L9 : List EN := [E1, (5, vi p1)]
 let S10 : St := ⟨[E1], [B2], H⟩
 let S11 : St := ⟨[E1, E3, E4], [B2], H⟩
 let S12 : St := ⟨[E1, E5, E6], [B2], H⟩
 let S13 : St := ⟨[E1, E7, E8], [B2], H⟩
 refine yf Try.func133 true ⟨[(0, .agg (Aq p0)), (1, vi p1)], [], H⟩ ?_
 unfold P3 at hF
 refine ysg ⟨[(1, vi p1), E1], [B2], H⟩ ?_
 refine Ah ?_
 refine ysg ⟨L9, [B2], H⟩ ?_
 refine Bs ?_
 refine Ah ?_
 refine ysg ⟨L9 ++ [(6, vb (p1 == 1))], [B2], H⟩ ?_
 refine Ar (α := (Bool)) (fun x => (⟨L9 ++ [(6, vb x)], [B2], H⟩ : St)) (fun x => Ke p0 p1 x = some ra) ?_ ?_
 rintro j1 hF
 replace hF : Ke p0 p1 j1 = some ra := hF
 unfold Ke at hF
 rcases Af hF with ⟨h2, hF⟩ | ⟨h2, hF⟩
 refine yT h2 S10 ?_
 refine Ah ?_
 obtain ⟨r3, c4, hF⟩ := Ab hF
 refine Ak ⟨[(4, vb r3)], [], H⟩ ?_ ?_
 refine yr 2 S11 ?_
 refine Aj ⟨[E1, E3, E4, (11, vb r3)], [B2], H⟩ (yc (some 11) true false S11 (Uk H c4)) ?_
 refine yr 1 ⟨[E1, (4, vb r3), E3, E4, (11, vb r3)], [B2], H⟩ ?_
 exact ye
 refine As ?_
 obtain e0 := Al hF
 subst e0
 exact yp (vb r3)
 refine yF h2 ⟨L9, [B2], H⟩ ?_
 refine Ah ?_
 refine ysg ⟨L9 ++ [(12, vb (p1 == 2))], [B2], H⟩ ?_
 refine Ar (α := (Bool)) (fun x => (⟨L9 ++ [(12, vb x)], [B2], H⟩ : St)) (fun x => Kc p0 p1 x = some ra) ?_ ?_
 rintro j5 hF
 replace hF : Kc p0 p1 j5 = some ra := hF
 unfold Kc at hF
 rcases Af hF with ⟨h6, hF⟩ | ⟨h6, hF⟩
 refine yT h6 S10 ?_
 refine Ah ?_
 obtain ⟨r7, c8, hF⟩ := Ab hF
 refine Ak ⟨[(4, vb r7)], [], H⟩ ?_ ?_
 refine yr 2 S12 ?_
 refine Aj ⟨[E1, E5, E6, (18, vb r7)], [B2], H⟩ (yc (some 18) true false S12 (Y0 H c8)) ?_
 refine yr 1 ⟨[E1, (4, vb r7), E5, E6, (18, vb r7)], [B2], H⟩ ?_
 exact ye
 refine As ?_
 obtain e0 := Al hF
 subst e0
 exact yp (vb r7)
 refine yF h6 ⟨L9, [B2], H⟩ ?_
 refine ysg ⟨[E1, (19, vb (p1 == 7))], [B2], H⟩ ?_
 rcases Af hF with ⟨h9, hF⟩ | ⟨h9, hF⟩
 refine yT h9 S10 ?_
 refine Ah ?_
 obtain ⟨r10, c11, hF⟩ := Ab hF
 refine Ak ⟨[(4, vb r10)], [], H⟩ ?_ ?_
 refine yr 2 S13 ?_
 refine Aj ⟨[E1, E7, E8, (23, vb r10)], [B2], H⟩ (yc (some 23) true false S13 (Uk H c11)) ?_
 refine yr 1 ⟨[E1, (4, vb r10), E7, E8, (23, vb r10)], [B2], H⟩ ?_
 exact ye
 refine As ?_
 obtain e0 := Al hF
 subst e0
 exact yp (vb r10)
 refine yF h9 S10 ?_
 refine Am ?_
 refine ysg ⟨[(4, vb (p0.Imm_ == 0))], [], H⟩ ?_
 refine As ?_
 obtain e0 := Al hF
 subst e0
 exact yp (vb (p0.Imm_ == 0))
 rcases Af hF with ⟨h12, hF⟩ | ⟨h12, hF⟩
 refine yT h12 ⟨L9 ++ [(12, vb (p1 == 2))], [B2], H⟩ ?_
 refine Am ?_
 exact ⟨(p1 == 2), hF, (by kernel_rfl)⟩
 refine yF h12 ⟨L9, [B2], H⟩ ?_
 refine ysg ⟨L9 ++ [(12, vb (p1 == 4))], [B2], H⟩ ?_
 refine Ar (α := (Bool)) (fun x => (⟨L9 ++ [(12, vb x)], [B2], H⟩ : St)) (fun x => Kd p0 p1 x = some ra) ?_ ?_
 rintro j13 hF
 replace hF : Kd p0 p1 j13 = some ra := hF
 unfold Kd at hF
 exact ⟨j13, hF, (by kernel_rfl)⟩
 rcases Af hF with ⟨h14, hF⟩ | ⟨h14, hF⟩
 refine yT h14 ⟨L9 ++ [(12, vb (p1 == 4))], [B2], H⟩ ?_
 refine Am ?_
 exact ⟨(p1 == 4), hF, (by kernel_rfl)⟩
 refine yF h14 ⟨L9, [B2], H⟩ ?_
 refine yg ⟨L9 ++ [(12, vb (p1 == 8))], [B2], H⟩ ?_
 exact ⟨(p1 == 8), hF, (by kernel_rfl)⟩
 rcases Af hF with ⟨h15, hF⟩ | ⟨h15, hF⟩
 refine yT h15 ⟨L9 ++ [(6, vb (p1 == 1))], [B2], H⟩ ?_
 refine Am ?_
 exact ⟨(p1 == 1), hF, (by kernel_rfl)⟩
 refine yF h15 ⟨L9, [B2], H⟩ ?_
 refine yg ⟨L9 ++ [(6, vb (p1 == 3))], [B2], H⟩ ?_
 exact ⟨(p1 == 3), hF, (by kernel_rfl)⟩
noncomputable def Gq (j19 : Bool) : Option (Int) :=
  if (!j19) = true then (some 20)
  else (some 0)
noncomputable def Gr (j25 : Bool) : Option (Int) :=
  Gq j25
noncomputable def Gs (j28 : Bool) : Option (Int) :=
  Gr j28
noncomputable def Gt (p0 : T_instr_Instr) (r1 : Int) (j24 : Bool) : Option (Int) :=
  if j24 = true then (Gr ((p0.C_ == 0) && (p0.B_ == 0)))
  else (if (r1 == 5) = true then (Gs true)
  else (Gs (p0.C_ == 0)))
noncomputable def Gu (p0 : T_instr_Instr) (r1 : Int) (j31 : Bool) : Option (Int) :=
  Gt p0 r1 j31
noncomputable def Gv (p0 : T_instr_Instr) (r1 : Int) (j18 : Bool) : Option (Int) :=
  if j18 = true then (Gq ((p0.C_ == 0) && ((p0.A_ == 0) && (p0.B_ == 0))))
  else (if (r1 == 1) = true then (Gt p0 r1 (r1 == 1))
  else (if (r1 == 2) = true then (Gu p0 r1 (r1 == 2))
  else (Gu p0 r1 (r1 == 6))))
noncomputable def Gw (p0 : T_instr_Instr) (r1 : Int) (j34 : Bool) : Option (Int) :=
  Gv p0 r1 j34
noncomputable def Ld  (p0 : T_instr_Instr) : Option (Int) :=
  Ag (D3 p0.Op_) fun r1 =>
  if (decide (r1 < 0)) = true then (some 21)
  else (Ag (Mq p0.A_) fun r4 =>
  Ag (if (!r4) = true then (some true) else (Ag (Mq p0.B_) fun r7 =>
  if (!r7) = true then (some true) else (Ag (Mq p0.C_) fun r10 =>
  if (!r10) = true then (some true) else (Ag (P3 p0 r1) fun r13 =>
  some (!r13))))) fun w15 =>
  if w15 = true then (some 20)
  else (if (r1 == 0) = true then (Gv p0 r1 (r1 == 0))
  else (if (r1 == 7) = true then (Gw p0 r1 (r1 == 7))
  else (Gw p0 r1 (r1 == 8)))))
theorem Y1 (H : Ai) {p0 : T_instr_Instr} {ra : Int} (hF : Ld p0 = some ra) : evS X 113 [.agg (Aq p0)] H = some (.one .top (.int .i64 ra), H) := by
 let E1 : EN := (1, vl 1 0)
 let B2 : EB := (1, (Aq p0))
 let E3 : EN := (5, vl 1 0)
 let E4 : EN := (6, vi p0.Op_)
 let E5 : EN := (11, vi p0.A_)
 let E6 : EN := (4, vb (p0.C_ == 0))
 let L8 : List EN := [E1, E6]
 let L15 : List EN := [(40, vT), (41, vT), (42, vl 1 1), (43, vi p0.A_)]
 let L17 : List EN := [(25, vT), (26, vT), (27, vN), (28, vN), (29, vN), (30, vN), (31, vT)]
 let L18 : List EN := [(19, vT), (20, vT), (21, vN), (22, vN), (23, vN), (24, vN)] ++ L17
 let L19 : List EN := [(45, vF), (46, vF), (47, vN), (48, vN), (49, vN), (50, vF)]
 let S20 : St := ⟨[E1, E3, E4], [B2], H⟩
 let S21 : St := ⟨[], [], H⟩
 refine yf Try.func113 true ⟨[(0, .agg (Aq p0))], [], H⟩ ?_
 unfold Ld at hF
 refine ysg ⟨[E1], [B2], H⟩ ?_
 refine Ah ?_
 obtain ⟨r1, c2, hF⟩ := Ab hF
 let L7 : List EN := [E1, (3, vi r1)]
 let L10 : List EN := L8 ++ [(35, vi r1)]
 refine Ak ⟨L7, [B2], H⟩ ?_ ?_
 refine yr 2 S20 ?_
 refine Aj ⟨[E1, E3, E4, (7, vi r1)], [B2], H⟩ (yc (some 7) true false S20 (Lt H c2)) ?_
 refine yr 1 ⟨L7 ++ [E3, E4, (7, vi r1)], [B2], H⟩ ?_
 exact ye
 refine Ah ?_
 refine ysg ⟨L7 ++ [(9, vb (decide (r1 < 0)))], [B2], H⟩ ?_
 rcases Af hF with ⟨h3, hF⟩ | ⟨h3, hF⟩
 refine yT h3 S21 ?_
 refine ysg ⟨[(2, vi 21)], [], H⟩ ?_
 refine As ?_
 obtain e0 := Al hF
 subst e0
 exact yp (vi 21)
 refine yF h3 ⟨L7, [B2], H⟩ ?_
 refine Am ?_
 refine Ah ?_
 refine Ah ?_
 obtain ⟨r4, c5, hF⟩ := Ab hF
 let L9 : List EN := L7 ++ [(10, vl 1 1), E5, (12, vb r4)]
 let L11 : List EN := L9 ++ [(13, vF), (14, vF), (15, vl 1 2), (16, vi p0.B_)]
 obtain ⟨w15, hB16, hF⟩ := Ab hF
 refine Ak ⟨L7 ++ [(31, vb w15)], [B2], H⟩ ?_ ?_
 refine yr 2 ⟨L7 ++ [(10, vl 1 1), E5], [B2], H⟩ ?_
 refine Aj ⟨L9, [B2], H⟩ (yc (some 12) true false (⟨L7 ++ [(10, vl 1 1), E5], [B2], H⟩ : St) (Qq H c5)) ?_
 refine yr 2 ⟨L9 ++ [(13, vb (!r4)), (14, vb (!r4))], [B2], H⟩ ?_
 rcases Af hB16 with ⟨h6, hB16⟩ | ⟨h6, hB16⟩
 refine Bc (congrArg (fun q => (⟨L9 ++ [(13, vb q), (14, vb q)], [B2], H⟩ : St)) h6) ?_
 refine yr 17 ⟨L9 ++ [(13, vT), (14, vT), (15, vN), (16, vN), (17, vN), (18, vN)] ++ L18, [B2], H⟩ ?_
 cases hB16
 exact ye
 refine Bc (congrArg (fun q => (⟨L9 ++ [(13, vb q), (14, vb q)], [B2], H⟩ : St)) h6) ?_
 refine yr 2 ⟨L11, [B2], H⟩ ?_
 obtain ⟨r7, c8, hB16⟩ := Ab hB16
 let L12 : List EN := L11 ++ [(17, vb r7)]
 let L13 : List EN := L12 ++ [(18, vF), (19, vF), (20, vF), (21, vl 1 3), (22, vi p0.C_)]
 refine Aj ⟨L12, [B2], H⟩ (yc (some 17) true false (⟨L11, [B2], H⟩ : St) (Qq H c8)) ?_
 refine yr 3 ⟨L12 ++ [(18, vb (!r7)), (19, vb (!r7)), (20, vb (!r7))], [B2], H⟩ ?_
 rcases Af hB16 with ⟨h9, hB16⟩ | ⟨h9, hB16⟩
 refine Bc (congrArg (fun q => (⟨L12 ++ [(18, vb q), (19, vb q), (20, vb q)], [B2], H⟩ : St)) h9) ?_
 refine yr 11 ⟨L12 ++ [(18, vT)] ++ L18, [B2], H⟩ ?_
 cases hB16
 exact ye
 refine Bc (congrArg (fun q => (⟨L12 ++ [(18, vb q), (19, vb q), (20, vb q)], [B2], H⟩ : St)) h9) ?_
 refine yr 2 ⟨L13, [B2], H⟩ ?_
 obtain ⟨r10, c11, hB16⟩ := Ab hB16
 let L14 : List EN := L13 ++ [(23, vb r10)]
 let L16 : List EN := L14 ++ [(24, vF), (25, vF), (26, vF), (27, .agg (Aq p0)), (28, vi r1)]
 refine Aj ⟨L14, [B2], H⟩ (yc (some 23) true false (⟨L13, [B2], H⟩ : St) (Qq H c11)) ?_
 refine yr 3 ⟨L14 ++ [(24, vb (!r10)), (25, vb (!r10)), (26, vb (!r10))], [B2], H⟩ ?_
 rcases Af hB16 with ⟨h12, hB16⟩ | ⟨h12, hB16⟩
 refine Bc (congrArg (fun q => (⟨L14 ++ [(24, vb q), (25, vb q), (26, vb q)], [B2], H⟩ : St)) h12) ?_
 refine yr 5 ⟨L14 ++ [(24, vT)] ++ L17, [B2], H⟩ ?_
 cases hB16
 exact ye
 refine Bc (congrArg (fun q => (⟨L14 ++ [(24, vb q), (25, vb q), (26, vb q)], [B2], H⟩ : St)) h12) ?_
 refine yr 2 ⟨L16, [B2], H⟩ ?_
 obtain ⟨r13, c14, hB16⟩ := Ab hB16
 refine Aj ⟨L16 ++ [(29, vb r13)], [B2], H⟩ (yc (some 29) true false (⟨L16, [B2], H⟩ : St) (bV H c14)) ?_
 refine yr 2 ⟨L16 ++ [(29, vb r13), (30, vb (!r13)), (31, vb (!r13))], [B2], H⟩ ?_
 cases hB16
 exact ye
 rcases Af hF with ⟨h17, hF⟩ | ⟨h17, hF⟩
 refine yT h17 S21 ?_
 refine ysg ⟨[(2, vi 20)], [], H⟩ ?_
 refine As ?_
 obtain e0 := Al hF
 subst e0
 exact yp (vi 20)
 refine yF h17 ⟨L7, [B2], H⟩ ?_
 refine Am ?_
 refine ysg ⟨L7 ++ [E6], [B2], H⟩ ?_
 refine Ah ?_
 refine ysg ⟨L10, [B2], H⟩ ?_
 refine Bs ?_
 refine Ah ?_
 refine ysg ⟨L10 ++ [(36, vb (r1 == 0))], [B2], H⟩ ?_
 refine Ar (α := (Bool)) (fun x => (⟨L10 ++ [(36, vb x)], [B2], H⟩ : St)) (fun x => Gv p0 r1 x = some ra) ?_ ?_
 rintro j18 hF
 replace hF : Gv p0 r1 j18 = some ra := hF
 unfold Gv at hF
 refine Ar (α := (Bool)) (fun x => (⟨[(4, vb x)], [], H⟩ : St)) (fun x => Gq x = some ra) ?_ ?_
 rintro j19 hF
 replace hF : Gq j19 = some ra := hF
 unfold Gq at hF
 refine Ah ?_
 refine ysg ⟨[(64, vb (!j19))], [], H⟩ ?_
 rcases Af hF with ⟨h20, hF⟩ | ⟨h20, hF⟩
 refine yT h20 S21 ?_
 refine ysg ⟨[(2, vi 20)], [], H⟩ ?_
 refine As ?_
 obtain e0 := Al hF
 subst e0
 exact yp (vi 20)
 refine yF h20 S21 ?_
 refine Am ?_
 refine ysg ⟨[(2, vi 0)], [], H⟩ ?_
 refine As ?_
 obtain e0 := Al hF
 subst e0
 exact yp (vi 0)
 rcases Af hF with ⟨h21, hF⟩ | ⟨h21, hF⟩
 refine yT h21 ⟨L8, [B2], H⟩ ?_
 refine Ak ⟨[(4, vb ((p0.C_ == 0) && ((p0.A_ == 0) && (p0.B_ == 0))))], [], H⟩ ?_ ?_
 refine yr 2 ⟨L8 ++ [(40, vb (p0.C_ == 0)), (41, vb (p0.C_ == 0))], [B2], H⟩ ?_
 rcases Aw (p0.C_ == 0) with h22 | h22
 refine Bc (congrArg (fun q => (⟨[E1, (4, vb q), (40, vb q), (41, vb q)], [B2], H⟩ : St)) h22) ?_
 refine yr 5 ⟨[E1, (4, vT)] ++ L15 ++ [(44, vb (p0.A_ == 0)), (45, vb (p0.A_ == 0)), (46, vb (p0.A_ == 0))], [B2], H⟩ ?_
 rcases Aw (p0.A_ == 0) with h23 | h23
 refine Bc (congrArg (fun q => (⟨[E1, (4, vT)] ++ L15 ++ [(44, vb q), (45, vb q), (46, vb q)], [B2], H⟩ : St)) h23) ?_
 refine yr 5 ⟨[E1, (4, vb (p0.B_ == 0))] ++ L15 ++ [(44, vT), (45, vT), (46, vT), (47, vl 1 2), (48, vi p0.B_), (49, vb (p0.B_ == 0)), (50, vb (p0.B_ == 0))], [B2], H⟩ ?_
 refine Bw (congrArg (fun q0 => (⟨[(4, vb q0)], [], H⟩ : St)) (show (p0.B_ == 0) = ((p0.C_ == 0) && ((p0.A_ == 0) && (p0.B_ == 0))) by simp [h22, h23])) ?_
 exact ye
 refine Bc (congrArg (fun q => (⟨[E1, (4, vT)] ++ L15 ++ [(44, vb q), (45, vb q), (46, vb q)], [B2], H⟩ : St)) h23) ?_
 refine yr 5 ⟨[E1, (4, vF)] ++ L15 ++ [(44, vF)] ++ L19, [B2], H⟩ ?_
 refine Bw (congrArg (fun q0 => (⟨[(4, vb q0)], [], H⟩ : St)) (show false = ((p0.C_ == 0) && ((p0.A_ == 0) && (p0.B_ == 0))) by simp [h22, h23])) ?_
 exact ye
 refine Bc (congrArg (fun q => (⟨[E1, (4, vb q), (40, vb q), (41, vb q)], [B2], H⟩ : St)) h22) ?_
 refine yr 10 ⟨[E1, (4, vF), (40, vF), (41, vF), (42, vN), (43, vN), (44, vN)] ++ L19, [B2], H⟩ ?_
 refine Bw (congrArg (fun q0 => (⟨[(4, vb q0)], [], H⟩ : St)) (show false = ((p0.C_ == 0) && ((p0.A_ == 0) && (p0.B_ == 0))) by simp [h22])) ?_
 exact ye
 exact ⟨((p0.C_ == 0) && ((p0.A_ == 0) && (p0.B_ == 0))), hF, (by kernel_rfl)⟩
 refine yF h21 ⟨L10, [B2], H⟩ ?_
 refine Ah ?_
 refine ysg ⟨L10 ++ [(51, vb (r1 == 1))], [B2], H⟩ ?_
 refine Ar (α := (Bool)) (fun x => (⟨L10 ++ [(51, vb x)], [B2], H⟩ : St)) (fun x => Gt p0 r1 x = some ra) ?_ ?_
 rintro j24 hF
 replace hF : Gt p0 r1 j24 = some ra := hF
 unfold Gt at hF
 refine Ar (α := (Bool)) (fun x => (⟨[(4, vb x)], [], H⟩ : St)) (fun x => Gr x = some ra) ?_ ?_
 rintro j25 hF
 replace hF : Gr j25 = some ra := hF
 unfold Gr at hF
 exact ⟨j25, hF, (by kernel_rfl)⟩
 rcases Af hF with ⟨h26, hF⟩ | ⟨h26, hF⟩
 refine yT h26 ⟨L8, [B2], H⟩ ?_
 refine Ak ⟨[(4, vb ((p0.C_ == 0) && (p0.B_ == 0)))], [], H⟩ ?_ ?_
 refine yr 2 ⟨L8 ++ [(55, vb (p0.C_ == 0)), (56, vb (p0.C_ == 0))], [B2], H⟩ ?_
 rcases Aw (p0.C_ == 0) with h27 | h27
 refine Bc (congrArg (fun q => (⟨[E1, (4, vb q), (55, vb q), (56, vb q)], [B2], H⟩ : St)) h27) ?_
 refine yr 5 ⟨[E1, (4, vb (p0.B_ == 0)), (55, vT), (56, vT), (57, vl 1 2), (58, vi p0.B_), (59, vb (p0.B_ == 0)), (60, vb (p0.B_ == 0))], [B2], H⟩ ?_
 refine Bw (congrArg (fun q0 => (⟨[(4, vb q0)], [], H⟩ : St)) (show (p0.B_ == 0) = ((p0.C_ == 0) && (p0.B_ == 0)) by simp [h27])) ?_
 exact ye
 refine Bc (congrArg (fun q => (⟨[E1, (4, vb q), (55, vb q), (56, vb q)], [B2], H⟩ : St)) h27) ?_
 refine yr 5 ⟨[E1, (4, vF), (55, vF), (56, vF), (57, vN), (58, vN), (59, vN), (60, vF)], [B2], H⟩ ?_
 refine Bw (congrArg (fun q0 => (⟨[(4, vb q0)], [], H⟩ : St)) (show false = ((p0.C_ == 0) && (p0.B_ == 0)) by simp [h27])) ?_
 exact ye
 exact ⟨((p0.C_ == 0) && (p0.B_ == 0)), hF, (by kernel_rfl)⟩
 refine yF h26 ⟨[E6, (35, vi r1)], [], H⟩ ?_
 refine ysg ⟨[E6, (61, vb (r1 == 5))], [], H⟩ ?_
 refine Ar (α := (Bool)) (fun x => (⟨[(4, vb x)], [], H⟩ : St)) (fun x => Gs x = some ra) ?_ ?_
 rintro j28 hF
 replace hF : Gs j28 = some ra := hF
 unfold Gs at hF
 exact ⟨j28, hF, (by kernel_rfl)⟩
 rcases Af hF with ⟨h29, hF⟩ | ⟨h29, hF⟩
 refine yT h29 S21 ?_
 refine yg ⟨[(4, vT)], [], H⟩ ?_
 exact ⟨true, hF, (by kernel_rfl)⟩
 refine yF h29 ⟨[E6], [], H⟩ ?_
 refine Am ?_
 exact ⟨(p0.C_ == 0), hF, (by kernel_rfl)⟩
 rcases Af hF with ⟨h30, hF⟩ | ⟨h30, hF⟩
 refine yT h30 ⟨L10 ++ [(51, vb (r1 == 1))], [B2], H⟩ ?_
 refine Am ?_
 exact ⟨(r1 == 1), hF, (by kernel_rfl)⟩
 refine yF h30 ⟨L10, [B2], H⟩ ?_
 refine ysg ⟨L10 ++ [(51, vb (r1 == 2))], [B2], H⟩ ?_
 refine Ar (α := (Bool)) (fun x => (⟨L10 ++ [(51, vb x)], [B2], H⟩ : St)) (fun x => Gu p0 r1 x = some ra) ?_ ?_
 rintro j31 hF
 replace hF : Gu p0 r1 j31 = some ra := hF
 unfold Gu at hF
 exact ⟨j31, hF, (by kernel_rfl)⟩
 rcases Af hF with ⟨h32, hF⟩ | ⟨h32, hF⟩
 refine yT h32 ⟨L10 ++ [(51, vb (r1 == 2))], [B2], H⟩ ?_
 refine Am ?_
 exact ⟨(r1 == 2), hF, (by kernel_rfl)⟩
 refine yF h32 ⟨L10, [B2], H⟩ ?_
 refine yg ⟨L10 ++ [(51, vb (r1 == 6))], [B2], H⟩ ?_
 exact ⟨(r1 == 6), hF, (by kernel_rfl)⟩
 rcases Af hF with ⟨h33, hF⟩ | ⟨h33, hF⟩
 refine yT h33 ⟨L10 ++ [(36, vb (r1 == 0))], [B2], H⟩ ?_
 refine Am ?_
 exact ⟨(r1 == 0), hF, (by kernel_rfl)⟩
 refine yF h33 ⟨L10, [B2], H⟩ ?_
 refine ysg ⟨L10 ++ [(36, vb (r1 == 7))], [B2], H⟩ ?_
 refine Ar (α := (Bool)) (fun x => (⟨L10 ++ [(36, vb x)], [B2], H⟩ : St)) (fun x => Gw p0 r1 x = some ra) ?_ ?_
 rintro j34 hF
 replace hF : Gw p0 r1 j34 = some ra := hF
 unfold Gw at hF
 exact ⟨j34, hF, (by kernel_rfl)⟩
 rcases Af hF with ⟨h35, hF⟩ | ⟨h35, hF⟩
 refine yT h35 ⟨L10 ++ [(36, vb (r1 == 7))], [B2], H⟩ ?_
 refine Am ?_
 exact ⟨(r1 == 7), hF, (by kernel_rfl)⟩
 refine yF h35 ⟨L10, [B2], H⟩ ?_
 refine yg ⟨L10 ++ [(36, vb (r1 == 8))], [B2], H⟩ ?_
 exact ⟨(r1 == 8), hF, (by kernel_rfl)⟩
noncomputable def Dl  (p0 : T_instr_Instr) : Option (Int × Int) :=
  Ag (Ld p0) fun r1 =>
  if (r1 != 0) = true then (some (0, r1))
  else (Ag (D3 p0.Op_) fun r4 =>
  if (r4 == 7) = true then (some ((A6 .or .u32 (IntKind.wrap .u32 ((IntKind.wrap .u32 p0.Op_) * 2 ^ 24)) (A6 .and .u32 (IntKind.wrap .u32 p0.Imm_) 16777215)), 0))
  else (some ((A6 .or .u32 (A6 .or .u32 (A6 .or .u32 (A6 .or .u32 (IntKind.wrap .u32 ((IntKind.wrap .u32 p0.Op_) * 2 ^ 24)) (IntKind.wrap .u32 ((IntKind.wrap .u32 p0.A_) * 2 ^ 20))) (IntKind.wrap .u32 ((IntKind.wrap .u32 p0.B_) * 2 ^ 16))) (A6 .and .u32 (IntKind.wrap .u32 p0.Imm_) 65535)) (IntKind.wrap .u32 p0.C_)), 0)))
theorem Nz (H : Ai) {p0 : T_instr_Instr} {ra : Int} {rb : Int} (hF : Dl p0 = some (ra, rb)) : evS X 88 [.agg (Aq p0)] H = some (.tup [.one .top (.int .u32 ra), .one .top (.int .i64 rb)], H) := by
 let E1 : EN := (1, vl 1 0)
 let B2 : EB := (1, (Aq p0))
 let E3 : EN := (6, .agg (Aq p0))
 let L4 : List EN := [E1, (5, vu (IntKind.wrap .u32 ((IntKind.wrap .u32 p0.Op_) * 2 ^ 24)))]
 let L5 : List EN := L4 ++ [(15, vl 1 0), (16, vi p0.Op_)]
 refine yf Try.func88 true ⟨[(0, .agg (Aq p0))], [], H⟩ ?_
 unfold Dl at hF
 refine ysg ⟨[E1], [B2], H⟩ ?_
 refine Ah ?_
 refine Ah ?_
 obtain ⟨r1, c2, hF⟩ := Ab hF
 refine Ak ⟨[E1, (4, vi r1)], [B2], H⟩ ?_ ?_
 refine yr 1 ⟨[E1, E3], [B2], H⟩ ?_
 refine Aj ⟨[E1, E3, (7, vi r1)], [B2], H⟩ (yc (some 7) true false (⟨[E1, E3], [B2], H⟩ : St) (Y1 H c2)) ?_
 refine yr 1 ⟨[E1, (4, vi r1), E3, (7, vi r1)], [B2], H⟩ ?_
 exact ye
 refine ysg ⟨[E1, (4, vi r1), (9, vb (r1 != 0))], [B2], H⟩ ?_
 rcases Af hF with ⟨h3, hF⟩ | ⟨h3, hF⟩
 refine yT h3 ⟨[(4, vi r1)], [], H⟩ ?_
 refine ysg ⟨[(2, vu 0), (3, vi r1)], [], H⟩ ?_
 refine As ?_
 obtain ⟨e0, e1⟩ := Ap hF
 subst e0
 subst e1
 exact yp (.tup [vu 0, vi r1])
 refine yF h3 ⟨[E1], [B2], H⟩ ?_
 refine Am ?_
 refine ysg ⟨L4, [B2], H⟩ ?_
 refine Ah ?_
 refine Ah ?_
 obtain ⟨r4, c5, hF⟩ := Ab hF
 refine Ak ⟨L4 ++ [(18, vb (r4 == 7))], [B2], H⟩ ?_ ?_
 refine yr 2 ⟨L5, [B2], H⟩ ?_
 refine Aj ⟨L5 ++ [(17, vi r4)], [B2], H⟩ (yc (some 17) true false (⟨L5, [B2], H⟩ : St) (Lt H c5)) ?_
 refine yr 1 ⟨L5 ++ [(17, vi r4), (18, vb (r4 == 7))], [B2], H⟩ ?_
 exact ye
 rcases Af hF with ⟨h6, hF⟩ | ⟨h6, hF⟩
 refine yT h6 ⟨L4, [B2], H⟩ ?_
 refine ysg ⟨[(2, vu (A6 .or .u32 (IntKind.wrap .u32 ((IntKind.wrap .u32 p0.Op_) * 2 ^ 24)) (A6 .and .u32 (IntKind.wrap .u32 p0.Imm_) 16777215))), (3, vi 0)], [], H⟩ ?_
 refine As ?_
 obtain ⟨e0, e1⟩ := Ap hF
 subst e0
 subst e1
 exact yp (.tup [vu (A6 .or .u32 (IntKind.wrap .u32 ((IntKind.wrap .u32 p0.Op_) * 2 ^ 24)) (A6 .and .u32 (IntKind.wrap .u32 p0.Imm_) 16777215)), vi 0])
 refine yF h6 ⟨L4, [B2], H⟩ ?_
 refine Am ?_
 refine ysg ⟨[(2, vu (A6 .or .u32 (A6 .or .u32 (A6 .or .u32 (A6 .or .u32 (IntKind.wrap .u32 ((IntKind.wrap .u32 p0.Op_) * 2 ^ 24)) (IntKind.wrap .u32 ((IntKind.wrap .u32 p0.A_) * 2 ^ 20))) (IntKind.wrap .u32 ((IntKind.wrap .u32 p0.B_) * 2 ^ 16))) (A6 .and .u32 (IntKind.wrap .u32 p0.Imm_) 65535)) (IntKind.wrap .u32 p0.C_))), (3, vi 0)], [], H⟩ ?_
 refine As ?_
 obtain ⟨e0, e1⟩ := Ap hF
 subst e0
 subst e1
 exact yp (.tup [vu (A6 .or .u32 (A6 .or .u32 (A6 .or .u32 (A6 .or .u32 (IntKind.wrap .u32 ((IntKind.wrap .u32 p0.Op_) * 2 ^ 24)) (IntKind.wrap .u32 ((IntKind.wrap .u32 p0.A_) * 2 ^ 20))) (IntKind.wrap .u32 ((IntKind.wrap .u32 p0.B_) * 2 ^ 16))) (A6 .and .u32 (IntKind.wrap .u32 p0.Imm_) 65535)) (IntKind.wrap .u32 p0.C_)), vi 0])
noncomputable def Db (H : Ai) (p0 : Ptr) (p1 : Int) (p2 : (List Int)) : Option (Ai × Int) :=
  if ((Int.tmod p1 4) != 0) = true then (some (H, 30))
  else ((p0).bnd fun i2 o3 =>
  Ag (Cr H i2 o3) fun x5 =>
  if ((decide (p1 > x5.layout_.Stack_)) || (decide ((IntKind.wrap .u64 (p2.length : Int)) > (IntKind.wrap .u64 (Int.tdiv (IntKind.wrap .u64 (IntKind.wrap .u32 (x5.layout_.Stack_ - p1))) 4))))) = true then (some (H, 31))
  else (Ag (cut x5.words_ (IntKind.wrap .u32 (Int.tdiv p1 4)) x5.words_.length) fun v10 =>
  bnd (cpy x5.words_ (Int.toNat (IntKind.wrap .u32 (Int.tdiv p1 4))) p2) fun v11 =>
  bnd (Dj H i2 o3 (T_memory_Mem.mk x5.layout_ v11)) fun H13 =>
  some (H13, 0)))
theorem Tq (H : Ai) {p0 : Ptr} {p1 : Int} {p2 : (List Int)} {ra : Int} {Hr : Ai} (hF : Db H p0 p1 p2 = some (Hr, ra)) : evS X 56 [.one .top (Ptr.av p0), .one .top (.int .u32 p1), .one (.own 1) (.sl 1 (List.map (eI .u32) p2))] H = some (.one .top (.int .i64 ra), Hr) := by
 let E2 : EN := (10, vu p1)
 let E3 : EN := (2, .one (.own 1) (.sl 1 (List.map (eI .u32) p2)))
 let E4 : EN := (19, vi (p2.length : Int))
 let L15 : Ptr → List EN := fun z0 => [(0, vp z0), (1, vu p1), E3]
 refine yf Try.func56 false ⟨(L15 p0), [], H⟩ ?_
 unfold Db at hF
 refine ysg ⟨(L15 p0), [], H⟩ ?_ (h := (by generalize p0 = qp0; cases qp0 <;> kernel_rfl))
 refine Ah ?_
 refine ysg ⟨(L15 p0) ++ [(9, vb ((Int.tmod p1 4) != 0))], [], H⟩ ?_ (h := (by generalize p0 = qp0; cases qp0 <;> kernel_rfl))
 rcases Af hF with ⟨h1, hF⟩ | ⟨h1, hF⟩
 refine yT h1 ⟨[], [], H⟩ ?_
 refine ysg ⟨[(6, vi 30)], [], H⟩ ?_
 refine As ?_
 obtain ⟨e0, e1⟩ := Ap hF
 subst e0
 subst e1
 exact yi (vi 30)
 refine yF h1 ⟨(L15 p0), [], H⟩ ?_
 refine Am ?_
 refine Ah ?_
 refine Ah ?_
 obtain ⟨i2, o3, h4, hF⟩ := Br hF
 let L9 : List EN := [(0, vo i2 o3), (1, vu p1), E3]
 let L10 : List EN := L9 ++ [E2, (11, vo i2 o3), (12, vo i2 o3), (13, vo i2 o3), (14, vo i2 (o3 + 4))]
 let L12 : List EN := L9 ++ [(32, vo i2 o3), (33, vo i2 o3), (34, vo i2 (o3 + 5))]
 obtain ⟨x5, V6, hF⟩ := Ab hF
 replace V6 := A8 V6
 let E5 : EN := (25, vu x5.layout_.Stack_)
 let E6 : EN := (35, .one .top (.at_ (.obj i2 (o3 + 5)) 0 ((List.map (eI .u32) x5.words_).length)))
 let E7 : EN := (38, .one .top (.at_ (.obj i2 (o3 + 5)) (Int.toNat (IntKind.wrap .u32 (Int.tdiv p1 4))) ((List.map (eI .u32) x5.words_).length - Int.toNat (IntKind.wrap .u32 (Int.tdiv p1 4)))))
 let E8 : EN := (40, vi (((min p2.length (x5.words_.length - (Int.toNat (IntKind.wrap .u32 (Int.tdiv p1 4)))) : Nat)) : Int))
 let L11 : List EN := L10 ++ [(15, vu x5.layout_.Stack_)]
 let L13 : List EN := L12 ++ [E6, (36, vu p1), (37, vu (IntKind.wrap .u32 (Int.tdiv p1 4)))]
 let L14 : List EN := L11 ++ [(16, vF), (17, vF), (18, .one .bl (.sl 1 (List.map (eI .u32) p2)))]
 let L16 : List EN := L13 ++ [E7, (39, .one .bl (.sl 1 (List.map (eI .u32) p2)))]
 let L17 : List EN := L14 ++ [E4, (20, .one .top (.int .u64 (IntKind.wrap .u64 (p2.length : Int)))), (21, vo i2 o3), (22, vo i2 o3), (23, vo i2 o3), (24, vo i2 (o3 + 4))]
 refine Ak ⟨L9 ++ [(31, vb ((decide (p1 > x5.layout_.Stack_)) || (decide ((IntKind.wrap .u64 (p2.length : Int)) > (IntKind.wrap .u64 (Int.tdiv (IntKind.wrap .u64 (IntKind.wrap .u32 (x5.layout_.Stack_ - p1))) 4))))))], [], H⟩ ?_ ?_
 refine yr 2 ⟨(L15 p0) ++ [E2, (11, vp p0)], [], H⟩ ?_ (h := (by generalize p0 = qp0; cases qp0 <;> kernel_rfl))
 refine Bc (congrArg (fun q => (⟨[(0, vp q), (1, vu p1), E3, E2, (11, vp q)], [], H⟩ : St)) h4) ?_
 refine yr 1 ⟨L9 ++ [E2, (11, vo i2 o3), (12, vo i2 o3)], [], H⟩ ?_
 refine yr 2 ⟨L10, [], H⟩ ?_
 refine Aj ⟨L11, [], H⟩ (yd (X := X) (⟨L10, [], H⟩ : St) 35 V6 4 1 false (vu x5.layout_.Stack_) (some 15)) ?_
 refine yr 2 ⟨L11 ++ [(16, vb (decide (p1 > x5.layout_.Stack_))), (17, vb (decide (p1 > x5.layout_.Stack_)))], [], H⟩ ?_
 rcases Aw (decide (p1 > x5.layout_.Stack_)) with h7 | h7
 refine Bc (congrArg (fun q => (⟨L11 ++ [(16, vb q), (17, vb q)], [], H⟩ : St)) h7) ?_
 refine yr 14 ⟨L11 ++ [(16, vT), (17, vT), (18, vN), (19, vN), (20, vN), (21, vN), (22, vN), (23, vN), (24, vN), (25, vN), (26, vN), (27, vN), (28, vN), (29, vN), (30, vN), (31, vT)], [], H⟩ ?_
 refine Bw (congrArg (fun q0 => (⟨L9 ++ [(31, vb q0)], [], H⟩ : St)) (show true = ((decide (p1 > x5.layout_.Stack_)) || (decide ((IntKind.wrap .u64 (p2.length : Int)) > (IntKind.wrap .u64 (Int.tdiv (IntKind.wrap .u64 (IntKind.wrap .u32 (x5.layout_.Stack_ - p1))) 4))))) by simp [h7])) ?_
 exact ye
 refine Bc (congrArg (fun q => (⟨L11 ++ [(16, vb q), (17, vb q)], [], H⟩ : St)) h7) ?_
 refine yr 1 ⟨L14, [], H⟩ ?_
 refine Aj ⟨L14 ++ [E4], [], H⟩ (yl (⟨L14, [], H⟩ : St) p2 (eI .u32) (some 19)) ?_
 refine yr 5 ⟨L17, [], H⟩ ?_
 refine Aj ⟨L17 ++ [E5], [], H⟩ (yd (X := X) (⟨L17, [], H⟩ : St) 35 V6 4 1 false (vu x5.layout_.Stack_) (some 25)) ?_
 refine yr 6 ⟨L17 ++ [E5, (26, vu p1), (27, vu (IntKind.wrap .u32 (x5.layout_.Stack_ - p1))), (28, .one .top (.int .u64 (IntKind.wrap .u64 (IntKind.wrap .u32 (x5.layout_.Stack_ - p1))))), (29, .one .top (.int .u64 (IntKind.wrap .u64 (Int.tdiv (IntKind.wrap .u64 (IntKind.wrap .u32 (x5.layout_.Stack_ - p1))) 4)))), (30, vb (decide ((IntKind.wrap .u64 (p2.length : Int)) > (IntKind.wrap .u64 (Int.tdiv (IntKind.wrap .u64 (IntKind.wrap .u32 (x5.layout_.Stack_ - p1))) 4))))), (31, vb (decide ((IntKind.wrap .u64 (p2.length : Int)) > (IntKind.wrap .u64 (Int.tdiv (IntKind.wrap .u64 (IntKind.wrap .u32 (x5.layout_.Stack_ - p1))) 4)))))], [], H⟩ ?_
 refine Bw (congrArg (fun q0 => (⟨L9 ++ [(31, vb q0)], [], H⟩ : St)) (show (decide ((IntKind.wrap .u64 (p2.length : Int)) > (IntKind.wrap .u64 (Int.tdiv (IntKind.wrap .u64 (IntKind.wrap .u32 (x5.layout_.Stack_ - p1))) 4)))) = ((decide (p1 > x5.layout_.Stack_)) || (decide ((IntKind.wrap .u64 (p2.length : Int)) > (IntKind.wrap .u64 (Int.tdiv (IntKind.wrap .u64 (IntKind.wrap .u32 (x5.layout_.Stack_ - p1))) 4))))) by simp [h7])) ?_
 exact ye
 rcases Af hF with ⟨h8, hF⟩ | ⟨h8, hF⟩
 refine yT h8 ⟨[], [], H⟩ ?_
 refine ysg ⟨[(6, vi 31)], [], H⟩ ?_
 refine As ?_
 obtain ⟨e0, e1⟩ := Ap hF
 subst e0
 subst e1
 exact yi (vi 31)
 refine yF h8 ⟨L9, [], H⟩ ?_
 refine Am ?_
 refine Ah ?_
 obtain ⟨v10, h9, hF⟩ := Ab hF
 obtain ⟨v11, h12, hF⟩ := Ci hF
 let W1 : Ai := Dp H i2 o3 [(.top, .int .u32 x5.layout_.Code_), (.top, .int .u32 x5.layout_.Tables_), (.top, .int .u32 x5.layout_.Data_), (.top, .int .u32 x5.layout_.Heap_), (.top, .int .u32 x5.layout_.Stack_), ((.own 1), .sl 1 (List.map (eI .u32) v11))]
 obtain ⟨H13, h14, hF⟩ := Ci hF
 have V15 : Cq H13 i2 o3 6 = some (Dz (T_memory_Mem.mk x5.layout_ v11)) := by rw [← h14]; exact Bt V6 rfl
 refine Ak ⟨[], [], H13⟩ ?_ ?_
 refine yr 3 ⟨L12, [], H⟩ ?_
 refine Aj ⟨L12 ++ [E6], [], H⟩ (fR (X := X) (⟨L12, [], H⟩ : St) 42 V6 5 0 1 (List.map (eI .u32) x5.words_) (some 35) (by kernel_rfl) (by kernel_rfl) (by kernel_rfl) (by kernel_rfl) (by kernel_rfl) (by kernel_rfl)) ?_
 refine yr 2 ⟨L13, [], H⟩ ?_
 refine Aj ⟨L13 ++ [E7], [], H⟩ (iG (X := X) (⟨L13, [], H⟩ : St) 42 35 1 h9 (eI .u32) (.obj i2 (o3 + 5)) 0 (some (.tmp 37)) (some 38) (by kernel_rfl) (by kernel_rfl) (by kernel_rfl) (Yw (k := 5) (c := ((.own 1), .sl 1 (List.map (eI .u32) x5.words_))) V6 (by kernel_rfl) (by kernel_rfl)) (show (opnd X.P (⟨L13, [], H⟩ : St) 0 (.tmp 37)).bind Ty = some (IntKind.wrap .u32 (Int.tdiv p1 4)) by kernel_rfl) (by kernel_rfl)) ?_
 refine yr 1 ⟨L16, [], H⟩ ?_
 refine Aj ⟨L16 ++ [E8], [], W1⟩ (mA (X := X) (lc := []) (h2 := W1) (⟨L16, [], H⟩ : St) 42 35 V6 5 0 1 (eI .u32) .bl x5.words_ p2 (Int.toNat (IntKind.wrap .u32 (Int.tdiv p1 4))) h12 (some 40) (lZ h9) (by kernel_rfl) (by kernel_rfl) (by kernel_rfl) (fun _ => rfl) (fun _ => rfl) (by kernel_rfl) (by kernel_rfl) (Ca V6 (Nat.le_of_ble_eq_true rfl)) (by kernel_rfl)) ?_
 refine Bc (congrArg (fun q => (⟨L16 ++ [E8], [], q⟩ : St)) h14) ?_
 exact ye
 refine ysg ⟨[(6, vi 0)], [], H13⟩ ?_
 refine As ?_
 obtain ⟨e0, e1⟩ := Ap hF
 subst e0
 subst e1
 exact yi (vi 0)
noncomputable def N8 (H : Ai) (p0 : T_cpu_Setup) (p1 : (List Int)) : Option (Ai × Ptr) :=
  Ag (app 4 ([] : List Int) p1) fun v1 =>
  bnd H.length fun i4 =>
  bnd (Lc H (T_cpu_Cpu.mk (Ho [0, 0, 0, 0, 0, 0, 0, 0, 0, 0, 0, 0, 0, 0, 0, 0] : Arr 16 Int) p0.Entry_ 0 0 0 0 0 0 ([] : List T_api_Event) p0 v1)) fun H3 =>
  some (H3, (Ptr.at i4 0))
theorem fY (H : Ai) {p0 : T_cpu_Setup} {p1 : (List Int)} {ra : Ptr} {Hr : Ai} (hF : N8 H p0 p1 = some (Hr, ra)) : evS X 89 [.agg (Dy p0), .one (.own 1) (.sl 1 (List.map (eI .i32) p1))] H = some (.one .top (Ptr.av ra), Hr) := by
 let E1 : EN := (1, .one (.own 1) (.sl 1 (List.map (eI .i32) p1)))
 let B2 : EB := (2, (Dy p0))
 let E3 : EN := (5, vl 2 0)
 let E4 : EN := (6, vu p0.Entry_)
 let E5 : EN := (9, .one .bl (.sl 1 (List.map (eI .i32) p1)))
 let E6 : EN := (8, .one .top .junk)
 let E7 : EN := (10, .one .top .junk)
 let E8 : EN := (9, .one .top .junk)
 let E9 : EN := (11, .agg (List.replicate 16 (.top, .int .u32 0) ++ [(.top, .int .u32 p0.Entry_), (.top, .int .u32 0), (.top, .int .u32 0)] ++ List.replicate 4 (.top, .int .i64 0) ++ [(.top, .junk), (.top, .int .u32 p0.Entry_), (.top, .int .u32 p0.Vector_), (.top, .int .u32 p0.Guard_), (.top, .int .u32 p0.Limit_), (.top, .junk)]))
 let E10 : EN := (7, .agg (Dy p0))
 let L11 : List EN := [E1, (2, vl 2 0)]
 let L12 : List EN := L11 ++ [E3, E4, E10]
 refine yf Try.func89 false ⟨[(0, .agg (Dy p0)), E1], [], H⟩ ?_
 unfold N8 at hF
 refine ysg ⟨L11, [B2], H⟩ ?_
 refine Ah ?_
 obtain ⟨v1, h2, hF⟩ := Ab hF
 obtain ⟨i4, h6, hF⟩ := Ci hF
 obtain ⟨H3, h5, hF⟩ := Ci hF
 refine Bn (.take 0 (.take 1 (.take 2 (.take 4 (.last 3 (.last 5 (.take 6 (.last 7 (.take 8 .done))))))))) (by kernel_rfl) (⟨[(4, vo i4 0)], [], H3⟩ : St) ?_ ?_
 refine ydk 4 ⟨L12 ++ [E5], [B2], H⟩ ?_
 refine ydl ⟨L12 ++ [(8, .one (.own 1) (.sl 1 (List.map (eI .i32) ([] : List Int)))), E5], [B2], H⟩ ?_
 refine Bo ⟨L12 ++ [E6, E5, (10, .one (.own 1) (.sl 1 (List.map (eI .i32) v1)))], [B2], H⟩ (Lq (X := X) (⟨L12 ++ [E6, E5], [B2], H⟩ : St) 4 h2 48 48 21 1 0 [(.top, .int .i32 0)] .bl (eI .i32) 9 (some 10) (by kernel_rfl) (by kernel_rfl) (by kernel_rfl) (by kernel_rfl) (by kernel_rfl) (by kernel_rfl) (by kernel_rfl) (by kernel_rfl) (fT rfl fun _ => rfl) (fun _ => rfl) (by kernel_rfl)) ?_
 refine ydt ⟨L12 ++ [E6, E5, E7, (11, .agg (List.replicate 16 (.top, .int .u32 0) ++ [(.top, .int .u32 p0.Entry_), (.top, .int .u32 0), (.top, .int .u32 0)] ++ List.replicate 4 (.top, .int .i64 0) ++ [((.own 1), .sl 2 (List.map Ae ([] : List T_api_Event))), (.top, .int .u32 p0.Entry_), (.top, .int .u32 p0.Vector_), (.top, .int .u32 p0.Guard_), (.top, .int .u32 p0.Limit_), ((.own 1), .sl 1 (List.map (eI .i32) v1))]))], [B2], H⟩ ?_
 refine ydl ⟨L12 ++ [E6, E8, E7, E9, (12, vo H.length 0)], [B2], (H ++ [(List.replicate 16 (.top, .int .u32 0) ++ [(.top, .int .u32 p0.Entry_), (.top, .int .u32 0), (.top, .int .u32 0)] ++ List.replicate 4 (.top, .int .i64 0) ++ [((.own 1), .sl 2 (List.map Ae ([] : List T_api_Event))), (.top, .int .u32 p0.Entry_), (.top, .int .u32 p0.Vector_), (.top, .int .u32 p0.Guard_), (.top, .int .u32 p0.Limit_), ((.own 1), .sl 1 (List.map (eI .i32) v1))])])⟩ ?_
 refine Fe (fP (fun q u => (⟨L12 ++ [E6, E8, E7, E9, (12, vo q 0)], [B2], u⟩ : St)) h6 h5) ?_
 refine ydt ⟨L11 ++ [(4, vo i4 0), E3, E4, E10, E6, E8, E7, E9, (12, vo i4 0)], [B2], H3⟩ ?_
 exact yde
 refine As ?_
 obtain ⟨e0, e1⟩ := Ap hF
 subst e0
 subst e1
 exact yi (vo i4 0)
noncomputable def Dv (H : Ai) (p0 : Ptr) (p1 : Int) : Option (Int × Int) :=
  if ((Int.tmod p1 4) != 0) = true then (some (0, 30))
  else ((p0).bnd fun i2 o3 =>
  Ag (Cr H i2 o3) fun x5 =>
  if (decide (p1 ≥ x5.layout_.Stack_)) = true then (some (0, 31))
  else (some ((IntKind.wrap .i64 (IntKind.wrap .u32 (Int.tdiv p1 4))), 0)))
theorem Kk (H : Ai) {p0 : Ptr} {p1 : Int} {ra : Int} {rb : Int} (hF : Dv H p0 p1 = some (ra, rb)) : evS X 120 [.one .top (Ptr.av p0), .one .top (.int .u32 p1)] H = some (.tup [.one .top (.int .i64 ra), .one .top (.int .i64 rb)], H) := by
 let E1 : Ptr → EN := fun z0 => (0, vp z0)
 let E2 : EN := (1, vu p1)
 let E4 : EN := (11, vu p1)
 let S9 : Ptr → St := fun z0 => ⟨[(E1 z0), E2], [], H⟩
 refine yf Try.func120 true (S9 p0) ?_
 unfold Dv at hF
 refine ysg (S9 p0) ?_ (h := (by generalize p0 = qp0; cases qp0 <;> kernel_rfl))
 refine Ah ?_
 refine Bs ?_
 refine ysg ⟨[(E1 p0), E2, (6, vb ((Int.tmod p1 4) != 0))], [], H⟩ ?_ (h := (by generalize p0 = qp0; cases qp0 <;> kernel_rfl))
 rcases Af hF with ⟨h1, hF⟩ | ⟨h1, hF⟩
 refine yT h1 ⟨[], [], H⟩ ?_
 refine ysg ⟨[(4, vi 0), (5, vi 30)], [], H⟩ ?_
 refine As ?_
 obtain ⟨e0, e1⟩ := Ap hF
 subst e0
 subst e1
 exact yp (.tup [vi 0, vi 30])
 refine yF h1 (S9 p0) ?_
 refine Ah ?_
 obtain ⟨i2, o3, h4, hF⟩ := Br hF
 let E5 : EN := (12, vo i2 o3)
 let E6 : EN := (13, vo i2 o3)
 let L8 : List EN := [(0, vo i2 o3), E2, E4, E5, E6, (14, vo i2 o3), (15, vo i2 (o3 + 4))]
 obtain ⟨x5, V6, hF⟩ := Ab hF
 replace V6 := A8 V6
 let E3 : EN := (10, vb (decide (p1 ≥ x5.layout_.Stack_)))
 let E7 : EN := (16, vu x5.layout_.Stack_)
 refine Ak ⟨[E2, E3], [], H⟩ ?_ ?_
 refine yr 2 ⟨[(E1 p0), E2, E4, (12, vp p0)], [], H⟩ ?_ (h := (by generalize p0 = qp0; cases qp0 <;> kernel_rfl))
 refine Bc (congrArg (fun q => (⟨[(0, vp q), E2, E4, (12, vp q)], [], H⟩ : St)) h4) ?_
 refine yr 1 ⟨[(0, vo i2 o3), E2, E4, E5, E6], [], H⟩ ?_
 refine yr 2 ⟨L8, [], H⟩ ?_
 refine Aj ⟨L8 ++ [E7], [], H⟩ (yd (X := X) (⟨L8, [], H⟩ : St) 35 V6 4 1 false (vu x5.layout_.Stack_) (some 16)) ?_
 refine yr 2 ⟨[(0, vo i2 o3), E2, E3, E4, E5, E6, (14, vo i2 o3), (15, vo i2 (o3 + 4)), E7, (17, vb (decide (p1 ≥ x5.layout_.Stack_)))], [], H⟩ ?_
 exact ye
 rcases Af hF with ⟨h7, hF⟩ | ⟨h7, hF⟩
 refine yT h7 ⟨[], [], H⟩ ?_
 refine ysg ⟨[(4, vi 0), (5, vi 31)], [], H⟩ ?_
 refine As ?_
 obtain ⟨e0, e1⟩ := Ap hF
 subst e0
 subst e1
 exact yp (.tup [vi 0, vi 31])
 refine yF h7 ⟨[E2], [], H⟩ ?_
 refine Am ?_
 refine ysg ⟨[(4, vi (IntKind.wrap .i64 (IntKind.wrap .u32 (Int.tdiv p1 4)))), (5, vi 0)], [], H⟩ ?_
 refine As ?_
 obtain ⟨e0, e1⟩ := Ap hF
 subst e0
 subst e1
 exact yp (.tup [vi (IntKind.wrap .i64 (IntKind.wrap .u32 (Int.tdiv p1 4))), vi 0])
noncomputable def Gx (H : Ai) (p0 : Ptr) (p1 : Int) : Option (Int × Int) :=
  Ch (Dv H p0 p1) fun r1 r2 =>
  if (r2 != 0) = true then (some (0, r2))
  else ((p0).bnd fun i5 o6 =>
  Ag (Cr H i5 o6) fun x8 =>
  if (decide (p1 ≥ x8.layout_.Code_)) = true then (some (0, 31))
  else (Ag (gi x8.words_ r1) fun x11 =>
  some (x11, 0)))
theorem Sl (H : Ai) {p0 : Ptr} {p1 : Int} {ra : Int} {rb : Int} (hF : Gx H p0 p1 = some (ra, rb)) : evS X 99 [.one .top (Ptr.av p0), .one .top (.int .u32 p1)] H = some (.tup [.one .top (.int .u32 ra), .one .top (.int .i64 rb)], H) := by
 let E1 : Ptr → EN := fun z0 => (0, vp z0)
 let E2 : EN := (1, vu p1)
 let L16 : Ptr → List EN := fun z0 => [(E1 z0), E2, (9, vp z0), (10, vu p1)]
 let S19 : Ptr → St := fun z0 => ⟨[(E1 z0), E2], [], H⟩
 refine yf Try.func99 true (S19 p0) ?_
 unfold Gx at hF
 refine ysg (S19 p0) ?_ (h := (by generalize p0 = qp0; cases qp0 <;> kernel_rfl))
 refine Ah ?_
 obtain ⟨r1, r2, c3, hF⟩ := Bg hF
 let E3 : EN := (11, .tup [vi r1, vi r2])
 let E4 : EN := (6, vi r1)
 let L14 : List EN := [E2, E4, (19, vu p1)]
 let L17 : Ptr → List EN := fun z0 => [(E1 z0), E2, E4, (7, vi r2)]
 refine Ak ⟨(L17 p0), [], H⟩ ?_ ?_
 refine yr 2 ⟨(L16 p0), [], H⟩ ?_ (h := (by generalize p0 = qp0; cases qp0 <;> kernel_rfl))
 refine Aj ⟨(L16 p0) ++ [E3], [], H⟩ (yc (some 11) true false (⟨(L16 p0), [], H⟩ : St) (Kk H c3) (hr := (by generalize p0 = qp0; cases qp0 <;> kernel_rfl)) (hs := (by generalize p0 = qp0; cases qp0 <;> kernel_rfl))) ?_
 refine yr 5 ⟨(L17 p0) ++ [(8, .tup [vi r1, vi r2]), (9, vp p0), (10, vu p1), E3, (12, vi r1), (13, vi r2)], [], H⟩ ?_ (h := (by generalize p0 = qp0; cases qp0 <;> kernel_rfl))
 exact ye
 refine Ah ?_
 refine Bs ?_
 refine ysg ⟨(L17 p0) ++ [(14, vb (r2 != 0))], [], H⟩ ?_ (h := (by generalize p0 = qp0; cases qp0 <;> kernel_rfl))
 rcases Af hF with ⟨h4, hF⟩ | ⟨h4, hF⟩
 refine yT h4 ⟨[(7, vi r2)], [], H⟩ ?_
 refine ysg ⟨[(4, vu 0), (5, vi r2)], [], H⟩ ?_
 refine As ?_
 obtain ⟨e0, e1⟩ := Ap hF
 subst e0
 subst e1
 exact yp (.tup [vu 0, vi r2])
 refine yF h4 ⟨[(E1 p0), E2, E4], [], H⟩ ?_
 refine Ah ?_
 obtain ⟨i5, o6, h7, hF⟩ := Br hF
 let E6 : EN := (0, vo i5 o6)
 let E7 : EN := (20, vo i5 o6)
 let E8 : EN := (21, vo i5 o6)
 let L12 : List EN := [E6, E4]
 let L13 : List EN := [(26, vo i5 o6), (27, vo i5 o6), (28, vo i5 (o6 + 5))]
 let L18 : List EN := [E6] ++ L14 ++ [E7, E8, (22, vo i5 o6), (23, vo i5 o6)]
 obtain ⟨x8, V9, hF⟩ := Ab hF
 replace V9 := A8 V9
 let E5 : EN := (18, vb (decide (p1 ≥ x8.layout_.Code_)))
 let E9 : EN := (24, vu x8.layout_.Code_)
 let E10 : EN := (29, .one .bh (.sl 1 (List.map (eI .u32) x8.words_)))
 let L15 : List EN := L12 ++ L13 ++ [E10, (30, vi r1)]
 refine Ak ⟨L12 ++ [E5], [], H⟩ ?_ ?_
 refine yr 2 ⟨[(E1 p0)] ++ L14 ++ [(20, vp p0)], [], H⟩ ?_ (h := (by generalize p0 = qp0; cases qp0 <;> kernel_rfl))
 refine Bc (congrArg (fun q => (⟨[(0, vp q)] ++ L14 ++ [(20, vp q)], [], H⟩ : St)) h7) ?_
 refine yr 1 ⟨[E6] ++ L14 ++ [E7, E8], [], H⟩ ?_
 refine yr 2 ⟨L18, [], H⟩ ?_
 refine Aj ⟨L18 ++ [E9], [], H⟩ (yd (X := X) (⟨L18, [], H⟩ : St) 35 V9 0 1 false (vu x8.layout_.Code_) (some 24)) ?_
 refine yr 2 ⟨[E6, E2, E4, E5, (19, vu p1), E7, E8, (22, vo i5 o6), (23, vo i5 o6), E9, (25, vb (decide (p1 ≥ x8.layout_.Code_)))], [], H⟩ ?_
 exact ye
 rcases Af hF with ⟨h10, hF⟩ | ⟨h10, hF⟩
 refine yT h10 ⟨[], [], H⟩ ?_
 refine ysg ⟨[(4, vu 0), (5, vi 31)], [], H⟩ ?_
 refine As ?_
 obtain ⟨e0, e1⟩ := Ap hF
 subst e0
 subst e1
 exact yp (.tup [vu 0, vi 31])
 refine yF h10 ⟨L12, [], H⟩ ?_
 refine Am ?_
 refine Ah ?_
 obtain ⟨x11, h12, hF⟩ := Ab hF
 let E11 : EN := (31, .one .top (.rd .bh .bh [.int .u32 x11] 0))
 refine Ak ⟨[(4, vu x11), (5, vi 0)], [], H⟩ ?_ ?_
 refine yr 3 ⟨L12 ++ L13, [], H⟩ ?_
 refine Aj ⟨L12 ++ L13 ++ [E10], [], H⟩ (yd (X := X) (⟨L12 ++ L13, [], H⟩ : St) 42 V9 5 1 false (.one .bh (.sl 1 (List.map (eI .u32) x8.words_))) (some 29)) ?_
 refine yr 1 ⟨L15, [], H⟩ ?_
 refine Aj ⟨L15 ++ [E11], [], H⟩ (Qw (X := X) (⟨L15, [], H⟩ : St) 42 35 1 h12 (eI .u32) .bh (some 31) (by kernel_rfl) (by kernel_rfl) (by kernel_rfl) (by kernel_rfl)) ?_
 refine yr 3 ⟨[E6, (4, vu x11), (5, vi 0), E4] ++ L13 ++ [E10, (30, vi r1), E11, (32, vu x11)], [], H⟩ ?_
 exact ye
 refine As ?_
 obtain ⟨e0, e1⟩ := Ap hF
 subst e0
 subst e1
 exact yp (.tup [vu x11, vi 0])
noncomputable def Bq (H : Ai) (p0 : Ptr) (p1 : Int) : Option (Ai) :=
  (p0).bnd fun i1 o2 =>
  Ag (Ba H i1 o2) fun x4 =>
  bnd (Bj H i1 o2 (T_cpu_Cpu.mk x4.R_ x4.PC_ x4.EPC_ x4.Cause_ 2 p1 x4.Steps_ x4.Taken_ x4.Out_ x4.setup_ x4.input_)) fun H6 =>
  some H6
theorem Ff (H : Ai) {p0 : Ptr} {p1 : Int} {Hr : Ai} (hF : Bq H p0 p1 = some Hr) : evS X 100 [.one .top (Ptr.av p0), .one .top (.int .i64 p1)] H = some (.tup [], Hr) := by
 refine yf Try.func100 false ⟨[(0, vp p0), (1, vi p1)], [], H⟩ ?_
 unfold Bq at hF
 obtain ⟨i1, o2, h3, hF⟩ := Br hF
 let E3 : EN := (8, vo i1 (o2 + 19))
 let L4 : List EN := [(0, vo i1 o2), (1, vi p1), (4, vo i1 o2), (5, vo i1 o2), (6, vi p1), (7, vo i1 o2)]
 let L5 : List EN := L4 ++ [E3, (9, vo i1 o2), (10, vo i1 (o2 + 20))]
 obtain ⟨x4, V5, hF⟩ := Ab hF
 replace V5 := A8 V5
 let W1 : Ai := Dp H i1 o2 (arM .u32 16 x4.R_ ++ [(.top, .int .u32 x4.PC_), (.top, .int .u32 x4.EPC_), (.top, .int .u32 x4.Cause_), (.top, .int .i64 2), (.top, .int .i64 x4.Why_), (.top, .int .i64 x4.Steps_), (.top, .int .i64 x4.Taken_), ((.own 1), .sl 2 (List.map Ae x4.Out_)), (.top, .int .u32 x4.setup_.Entry_), (.top, .int .u32 x4.setup_.Vector_), (.top, .int .u32 x4.setup_.Guard_), (.top, .int .u32 x4.setup_.Limit_), ((.own 1), .sl 1 (List.map (eI .i32) x4.input_))])
 let W2 : Ai := Dp H i1 o2 (arM .u32 16 x4.R_ ++ [(.top, .int .u32 x4.PC_), (.top, .int .u32 x4.EPC_), (.top, .int .u32 x4.Cause_), (.top, .int .i64 2), (.top, .int .i64 p1), (.top, .int .i64 x4.Steps_), (.top, .int .i64 x4.Taken_), ((.own 1), .sl 2 (List.map Ae x4.Out_)), (.top, .int .u32 x4.setup_.Entry_), (.top, .int .u32 x4.setup_.Vector_), (.top, .int .u32 x4.setup_.Guard_), (.top, .int .u32 x4.setup_.Limit_), ((.own 1), .sl 1 (List.map (eI .i32) x4.input_))])
 obtain ⟨H6, h7, hF⟩ := Ci hF
 have V8 : Cq H6 i1 o2 29 = some (Bx (T_cpu_Cpu.mk x4.R_ x4.PC_ x4.EPC_ x4.Cause_ 2 p1 x4.Steps_ x4.Taken_ x4.Out_ x4.setup_ x4.input_)) := by rw [← h7]; exact Bt V5 rfl
 refine Ak ⟨[], [], H6⟩ ?_ ?_
 refine yr 3 ⟨[(0, vp p0), (1, vi p1), (4, vp p0), (5, vp p0), (6, vi p1)], [], H⟩ ?_ (h := (by generalize p0 = qp0; cases qp0 <;> kernel_rfl))
 refine Bc (congrArg (fun q => (⟨[(0, vp q), (1, vi p1), (4, vp q), (5, vp q), (6, vi p1)], [], H⟩ : St)) h3) ?_
 refine yr 1 ⟨L4, [], H⟩ ?_
 refine yr 1 ⟨L4 ++ [E3], [], H⟩ ?_
 refine Aj ⟨L4 ++ [E3], [], W1⟩ (Gp (X := X) (lc := []) (h2 := W1) (⟨L4 ++ [E3], [], H⟩ : St) 3 V5 19 1 (vi 2) (by kernel_rfl) (by kernel_rfl) (by kernel_rfl) (by kernel_rfl) (by kernel_rfl) (by kernel_rfl) (Ca V5 (Nat.le_of_ble_eq_true rfl)) (by kernel_rfl)) ?_
 refine yr 2 ⟨L5, [], W1⟩ ?_
 refine Aj ⟨L5, [], W2⟩ (Gp (X := X) (lc := []) (h2 := W2) (⟨L5, [], W1⟩ : St) 33 (Bt V5 rfl) 20 1 (vi p1) (by kernel_rfl) (by kernel_rfl) (by kernel_rfl) (by kernel_rfl) (by kernel_rfl) (by kernel_rfl) (Lp V5 rfl (Nat.le_of_ble_eq_true rfl)) (by kernel_rfl)) ?_
 refine Bc (congrArg (fun q => (⟨L5, [], q⟩ : St)) h7) ?_
 exact ye
 obtain e0 := Al hF
 subst e0
 exact yi (vN)
noncomputable def Lf  (p0 : Int) (p1 : Int) : Option (Int) :=
  if (decide (p1 < 1)) = true then (some 0)
  else (Ag (Qy .u32 p0 (IntKind.wrap .i64 (32 - (if 32 < p1 then 32 else p1)))) fun v2 =>
  Ag (dP .i32 (IntKind.wrap .i32 v2) (IntKind.wrap .i64 (32 - (if 32 < p1 then 32 else p1)))) fun v4 =>
  some v4)
theorem Ul (H : Ai) {p0 : Int} {p1 : Int} {ra : Int} (hF : Lf p0 p1 = some ra) : evS X 121 [.one .top (.int .u32 p0), .one .top (.int .i64 p1)] H = some (.one .top (.int .i32 ra), H) := by
 let E1 : EN := (0, vu p0)
 let E2 : EN := (5, vi (IntKind.wrap .i64 (32 - (if 32 < p1 then 32 else p1))))
 let E5 : EN := (12, vi (IntKind.wrap .i64 (32 - (if 32 < p1 then 32 else p1))))
 let L6 : List EN := [E1, E2, (11, vu p0), E5]
 let S8 : St := ⟨[E1, (1, vi p1)], [], H⟩
 refine yf Try.func121 true S8 ?_
 unfold Lf at hF
 refine ysg S8 ?_
 refine Ah ?_
 refine ysg ⟨[E1, (1, vi p1), (7, vb (decide (p1 < 1)))], [], H⟩ ?_
 rcases Af hF with ⟨h1, hF⟩ | ⟨h1, hF⟩
 refine yT h1 ⟨[], [], H⟩ ?_
 refine ysg ⟨[(4, .one .top (.int .i32 0))], [], H⟩ ?_
 refine As ?_
 obtain e0 := Al hF
 subst e0
 exact yp (.one .top (.int .i32 0))
 refine yF h1 S8 ?_
 refine Am ?_
 refine ysg ⟨[E1, E2], [], H⟩ ?_
 refine Ah ?_
 obtain ⟨v2, h3, hF⟩ := Ab hF
 let L7 : List EN := [(13, vu v2), (14, .one .top (.int .i32 (IntKind.wrap .i32 v2))), (15, vi (IntKind.wrap .i64 (32 - (if 32 < p1 then 32 else p1))))]
 obtain ⟨v4, h5, hF⟩ := Ab hF
 let E3 : EN := (4, .one .top (.int .i32 v4))
 let E4 : EN := (16, .one .top (.int .i32 v4))
 refine Ak ⟨[E3], [], H⟩ ?_ ?_
 refine yr 2 ⟨L6, [], H⟩ ?_
 refine Aj ⟨L6 ++ [(13, vu v2)], [], H⟩ (Mz (⟨L6, [], H⟩ : St) .u32 h3 (bS (P := X.P) (ty := 35) (x := (.tmp 11)) (y := (.tmp 12)) (m := .top) (m' := .top) (k := .u32) (k' := .i64) (a := p0) (b := (IntKind.wrap .i64 (32 - (if 32 < p1 then 32 else p1))))) (some 13) (by kernel_rfl) (by kernel_rfl)) ?_
 refine yr 2 ⟨L6 ++ L7, [], H⟩ ?_
 refine Aj ⟨L6 ++ L7 ++ [E4], [], H⟩ (Mz (⟨L6 ++ L7, [], H⟩ : St) .i32 h5 (pN (P := X.P) (ty := 21) (x := (.tmp 14)) (y := (.tmp 15)) (m := .top) (m' := .top) (k := .i32) (k' := .i64) (a := (IntKind.wrap .i32 v2)) (b := (IntKind.wrap .i64 (32 - (if 32 < p1 then 32 else p1))))) (some 16) (by kernel_rfl) (by kernel_rfl)) ?_
 refine yr 1 ⟨[E1, E3, E2, (11, vu p0), E5] ++ L7 ++ [E4], [], H⟩ ?_
 exact ye
 refine As ?_
 obtain e0 := Al hF
 subst e0
 exact yp (.one .top (.int .i32 v4))
noncomputable def Dr (p0 : Int) (j5 : T_instr_Instr) : Option (T_instr_Instr × Int) :=
  Ch (Dl j5) fun r6 r7 =>
  if ((r7 != 0) || (r6 != p0)) = true then (some ((T_instr_Instr.mk 0 0 0 0 0), 21))
  else (some (j5, 0))
noncomputable def D8 (p0 : Int) (j15 : T_instr_Instr) : Option (T_instr_Instr × Int) :=
  Dr p0 j15
noncomputable def D9 (p0 : Int) (j17 : T_instr_Instr) : Option (T_instr_Instr × Int) :=
  D8 p0 j17
noncomputable def Ea (p0 : Int) (j21 : T_instr_Instr) : Option (T_instr_Instr × Int) :=
  D9 p0 j21
noncomputable def Eb (p0 : Int) (j3 : T_instr_Instr) (r1 : Int) (j14 : Bool) : Option (T_instr_Instr × Int) :=
  if j14 = true then (D8 p0 (T_instr_Instr.mk j3.Op_ j3.A_ j3.B_ j3.C_ (IntKind.wrap .i64 (A6 .and .u32 p0 65535))))
  else (if (r1 == 7) = true then (Ag (Lf p0 24) fun r19 =>
  D9 p0 (T_instr_Instr.mk j3.Op_ j3.A_ j3.B_ j3.C_ (IntKind.wrap .i64 r19)))
  else (if (r1 == 5) = true then (Ea p0 (T_instr_Instr.mk j3.Op_ j3.A_ j3.B_ (IntKind.wrap .i64 (A6 .and .u32 p0 15)) j3.Imm_))
  else (Ea p0 j3)))
noncomputable def Ec (p0 : Int) (j3 : T_instr_Instr) (r1 : Int) (j24 : Bool) : Option (T_instr_Instr × Int) :=
  Eb p0 j3 r1 j24
noncomputable def Ed (p0 : Int) (j3 : T_instr_Instr) (r1 : Int) (j4 : Bool) : Option (T_instr_Instr × Int) :=
  if j4 = true then (Ag (Lf p0 16) fun r12 =>
  Dr p0 (T_instr_Instr.mk j3.Op_ j3.A_ j3.B_ j3.C_ (IntKind.wrap .i64 r12)))
  else (if (r1 == 2) = true then (Eb p0 j3 r1 (r1 == 2))
  else (if (r1 == 4) = true then (Ec p0 j3 r1 (r1 == 4))
  else (Ec p0 j3 r1 (r1 == 8))))
noncomputable def Ee (r1 : Int) (p0 : Int) (j3 : T_instr_Instr) : Option (T_instr_Instr × Int) :=
  if (r1 == 1) = true then (Ed p0 j3 r1 (r1 == 1))
  else (Ed p0 j3 r1 (r1 == 3))
noncomputable def Kf  (p0 : Int) : Option (T_instr_Instr × Int) :=
  Ag (D3 (IntKind.wrap .i64 (Int.fdiv p0 (2 ^ 24)))) fun r1 =>
  if (r1 != 7) = true then (Ee r1 p0 (T_instr_Instr.mk (IntKind.wrap .i64 (Int.fdiv p0 (2 ^ 24))) (IntKind.wrap .i64 (A6 .and .u32 (Int.fdiv p0 (2 ^ 20)) 15)) (IntKind.wrap .i64 (A6 .and .u32 (Int.fdiv p0 (2 ^ 16)) 15)) 0 0))
  else (Ee r1 p0 (T_instr_Instr.mk (IntKind.wrap .i64 (Int.fdiv p0 (2 ^ 24))) 0 0 0 0))
theorem Wa (H : Ai) {p0 : Int} {ra : T_instr_Instr} {rb : Int} (hF : Kf p0 = some (ra, rb)) : evS X 101 [.one .top (.int .u32 p0)] H = some (.tup [.agg [(.top, .int .i64 ra.Op_), (.top, .int .i64 ra.A_), (.top, .int .i64 ra.B_), (.top, .int .i64 ra.C_), (.top, .int .i64 ra.Imm_)], .one .top (.int .i64 rb)], H) := by
 let E1 : EN := (2, vl 2 0)
 let B2 : EB := (2, (List.replicate 5 (.top, .int .i64 0)))
 let B3 : EB := (4, ([(.top, .int .i64 (IntKind.wrap .i64 (Int.fdiv p0 (2 ^ 24))))] ++ List.replicate 4 (.top, .int .i64 0)))
 let E4 : EN := (12, vl 4 0)
 let E5 : EN := (13, vi (IntKind.wrap .i64 (Int.fdiv p0 (2 ^ 24))))
 let E11 : EN := (31, vu p0)
 let E14 : EN := (45, vu p0)
 let L16 : List EN := [E1, (4, vl 4 0)]
 let L17 : List EN := [(0, vu p0)] ++ L16
 refine yf Try.func101 true ⟨[(0, vu p0)], [], H⟩ ?_
 unfold Kf at hF
 refine ysg ⟨[(0, vu p0), E1], [B2], H⟩ ?_
 refine ysg ⟨L17, [B2, B3], H⟩ ?_
 refine Ah ?_
 obtain ⟨r1, c2, hF⟩ := Ab hF
 let L18 : List EN := L17 ++ [(27, vi r1)]
 let L19 : List EN := L17 ++ [(5, vi r1)]
 refine Ak ⟨L19, [B2, B3], H⟩ ?_ ?_
 refine yr 2 ⟨L17 ++ [E4, E5], [B2, B3], H⟩ ?_
 refine Aj ⟨L17 ++ [E4, E5, (14, vi r1)], [B2, B3], H⟩ (yc (some 14) true false (⟨L17 ++ [E4, E5], [B2, B3], H⟩ : St) (Lt H c2)) ?_
 refine yr 1 ⟨L19 ++ [E4, E5, (14, vi r1)], [B2, B3], H⟩ ?_
 exact ye
 refine Ah ?_
 refine ysg ⟨L19 ++ [(16, vb (r1 != 7))], [B2, B3], H⟩ ?_
 refine Ar (α := (T_instr_Instr)) (fun x => (⟨L19, [B2, (4, (Aq x))], H⟩ : St)) (fun x => Ee r1 p0 x = some (ra, rb)) ?_ ?_
 rintro j3 hF
 replace hF : Ee r1 p0 j3 = some (ra, rb) := hF
 let B6 : EB := (4, (Aq j3))
 unfold Ee at hF
 refine Ah ?_
 refine ysg ⟨L18, [B2, B6], H⟩ ?_
 refine Bs ?_
 refine Ah ?_
 refine ysg ⟨L18 ++ [(28, vb (r1 == 1))], [B2, B6], H⟩ ?_
 refine Ar (α := (Bool)) (fun x => (⟨L18 ++ [(28, vb x)], [B2, B6], H⟩ : St)) (fun x => Ed p0 j3 r1 x = some (ra, rb)) ?_ ?_
 rintro j4 hF
 replace hF : Ed p0 j3 r1 j4 = some (ra, rb) := hF
 unfold Ed at hF
 refine Ar (α := (T_instr_Instr)) (fun x => (⟨L17, [B2, (4, (Aq x))], H⟩ : St)) (fun x => Dr p0 x = some (ra, rb)) ?_ ?_
 rintro j5 hF
 replace hF : Dr p0 j5 = some (ra, rb) := hF
 let B7 : EB := (4, (Aq j5))
 let E8 : EN := (56, .agg (Aq j5))
 unfold Dr at hF
 refine Ah ?_
 obtain ⟨r6, r7, c8, hF⟩ := Bg hF
 let E9 : EN := (57, .tup [vu r6, vi r7])
 let L20 : List EN := L17 ++ [(6, vu r6), (7, vi r7), (60, vi r7)]
 refine Ak ⟨L17 ++ [(6, vu r6), (7, vi r7)], [B2, B7], H⟩ ?_ ?_
 refine yr 1 ⟨L17 ++ [E8], [B2, B7], H⟩ ?_
 refine Aj ⟨L17 ++ [E8, E9], [B2, B7], H⟩ (yc (some 57) true false (⟨L17 ++ [E8], [B2, B7], H⟩ : St) (Nz H c8)) ?_
 refine yr 5 ⟨L17 ++ [(6, vu r6), (7, vi r7), (55, .tup [vu r6, vi r7]), E8, E9, (58, vu r6), (59, vi r7)], [B2, B7], H⟩ ?_
 exact ye
 refine Ah ?_
 refine yso ⟨L16 ++ [(66, vb ((r7 != 0) || (r6 != p0)))], [B2, B7], H⟩ ?_ ?_
 refine yr 3 ⟨L20 ++ [(61, vb (r7 != 0)), (62, vb (r7 != 0))], [B2, B7], H⟩ ?_
 rcases Aw (r7 != 0) with h9 | h9
 refine Bc (congrArg (fun q => (⟨L20 ++ [(61, vb q), (62, vb q)], [B2, B7], H⟩ : St)) h9) ?_
 refine yr 4 ⟨L20 ++ [(61, vT), (62, vT), (63, vN), (64, vN), (65, vN), (66, vT)], [B2, B7], H⟩ ?_
 refine Bw (congrArg (fun q0 => (⟨L16 ++ [(66, vb q0)], [B2, B7], H⟩ : St)) (show true = ((r7 != 0) || (r6 != p0)) by simp [h9])) ?_
 exact ye
 refine Bc (congrArg (fun q => (⟨L20 ++ [(61, vb q), (62, vb q)], [B2, B7], H⟩ : St)) h9) ?_
 refine yr 4 ⟨L20 ++ [(61, vF), (62, vF), (63, vu r6), (64, vu p0), (65, vb (r6 != p0)), (66, vb (r6 != p0))], [B2, B7], H⟩ ?_
 refine Bw (congrArg (fun q0 => (⟨L16 ++ [(66, vb q0)], [B2, B7], H⟩ : St)) (show (r6 != p0) = ((r7 != 0) || (r6 != p0)) by simp [h9])) ?_
 exact ye
 rcases Af hF with ⟨h10, hF⟩ | ⟨h10, hF⟩
 refine yT h10 ⟨[E1], [B2], H⟩ ?_
 refine ysg ⟨[E1, (3, vi 21)], [B2], H⟩ ?_
 refine As ?_
 obtain ⟨e0, e1⟩ := Ap hF
 subst e0
 subst e1
 exact yp (.tup [.agg (List.replicate 5 (.top, .int .i64 0)), vi 21])
 refine yF h10 ⟨L16, [B2, B7], H⟩ ?_
 refine Am ?_
 refine ysg ⟨[E1, (3, vi 0)], [(2, (Aq j5))], H⟩ ?_
 refine As ?_
 obtain ⟨e0, e1⟩ := Ap hF
 subst e0
 subst e1
 exact yp (.tup [.agg (Aq j5), vi 0])
 rcases Af hF with ⟨h11, hF⟩ | ⟨h11, hF⟩
 refine yT h11 ⟨L17, [B2, B6], H⟩ ?_
 obtain ⟨r12, c13, hF⟩ := Ab hF
 let B10 : EB := (4, [(.top, .int .i64 j3.Op_), (.top, .int .i64 j3.A_), (.top, .int .i64 j3.B_), (.top, .int .i64 j3.C_), (.top, .int .i64 (IntKind.wrap .i64 r12))])
 let E12 : EN := (32, .one .top (.int .i32 r12))
 refine Ak ⟨L17, [B2, B10], H⟩ ?_ ?_
 refine yr 1 ⟨L17 ++ [E11], [B2, B6], H⟩ ?_
 refine Aj ⟨L17 ++ [E11, E12], [B2, B6], H⟩ (yc (some 32) true false (⟨L17 ++ [E11], [B2, B6], H⟩ : St) (Ul H c13)) ?_
 refine yr 3 ⟨L17 ++ [E11, E12, (33, vi (IntKind.wrap .i64 r12)), (34, vl 4 4)], [B2, B10], H⟩ ?_
 exact ye
 exact ⟨(T_instr_Instr.mk j3.Op_ j3.A_ j3.B_ j3.C_ (IntKind.wrap .i64 r12)), hF, (by kernel_rfl)⟩
 refine yF h11 ⟨L18, [B2, B6], H⟩ ?_
 refine Ah ?_
 refine ysg ⟨L18 ++ [(35, vb (r1 == 2))], [B2, B6], H⟩ ?_
 refine Ar (α := (Bool)) (fun x => (⟨L18 ++ [(35, vb x)], [B2, B6], H⟩ : St)) (fun x => Eb p0 j3 r1 x = some (ra, rb)) ?_ ?_
 rintro j14 hF
 replace hF : Eb p0 j3 r1 j14 = some (ra, rb) := hF
 unfold Eb at hF
 refine Ar (α := (T_instr_Instr)) (fun x => (⟨L17, [B2, (4, (Aq x))], H⟩ : St)) (fun x => D8 p0 x = some (ra, rb)) ?_ ?_
 rintro j15 hF
 replace hF : D8 p0 j15 = some (ra, rb) := hF
 unfold D8 at hF
 exact ⟨j15, hF, (by kernel_rfl)⟩
 rcases Af hF with ⟨h16, hF⟩ | ⟨h16, hF⟩
 refine yT h16 ⟨L17, [B2, B6], H⟩ ?_
 refine yg ⟨L17, [B2, (4, [(.top, .int .i64 j3.Op_), (.top, .int .i64 j3.A_), (.top, .int .i64 j3.B_), (.top, .int .i64 j3.C_), (.top, .int .i64 (IntKind.wrap .i64 (A6 .and .u32 p0 65535)))])], H⟩ ?_
 exact ⟨(T_instr_Instr.mk j3.Op_ j3.A_ j3.B_ j3.C_ (IntKind.wrap .i64 (A6 .and .u32 p0 65535))), hF, (by kernel_rfl)⟩
 refine yF h16 ⟨L18, [B2, B6], H⟩ ?_
 refine ysg ⟨L18 ++ [(43, vb (r1 == 7))], [B2, B6], H⟩ ?_
 refine Ar (α := (T_instr_Instr)) (fun x => (⟨L17, [B2, (4, (Aq x))], H⟩ : St)) (fun x => D9 p0 x = some (ra, rb)) ?_ ?_
 rintro j17 hF
 replace hF : D9 p0 j17 = some (ra, rb) := hF
 unfold D9 at hF
 exact ⟨j17, hF, (by kernel_rfl)⟩
 rcases Af hF with ⟨h18, hF⟩ | ⟨h18, hF⟩
 refine yT h18 ⟨L17, [B2, B6], H⟩ ?_
 obtain ⟨r19, c20, hF⟩ := Ab hF
 let B13 : EB := (4, [(.top, .int .i64 j3.Op_), (.top, .int .i64 j3.A_), (.top, .int .i64 j3.B_), (.top, .int .i64 j3.C_), (.top, .int .i64 (IntKind.wrap .i64 r19))])
 let E15 : EN := (46, .one .top (.int .i32 r19))
 refine Ak ⟨L17, [B2, B13], H⟩ ?_ ?_
 refine yr 1 ⟨L17 ++ [E14], [B2, B6], H⟩ ?_
 refine Aj ⟨L17 ++ [E14, E15], [B2, B6], H⟩ (yc (some 46) true false (⟨L17 ++ [E14], [B2, B6], H⟩ : St) (Ul H c20)) ?_
 refine yr 3 ⟨L17 ++ [E14, E15, (47, vi (IntKind.wrap .i64 r19)), (48, vl 4 4)], [B2, B13], H⟩ ?_
 exact ye
 exact ⟨(T_instr_Instr.mk j3.Op_ j3.A_ j3.B_ j3.C_ (IntKind.wrap .i64 r19)), hF, (by kernel_rfl)⟩
 refine yF h18 ⟨L18, [B2, B6], H⟩ ?_
 refine ysg ⟨L17 ++ [(49, vb (r1 == 5))], [B2, B6], H⟩ ?_
 refine Ar (α := (T_instr_Instr)) (fun x => (⟨L17, [B2, (4, (Aq x))], H⟩ : St)) (fun x => Ea p0 x = some (ra, rb)) ?_ ?_
 rintro j21 hF
 replace hF : Ea p0 j21 = some (ra, rb) := hF
 unfold Ea at hF
 exact ⟨j21, hF, (by kernel_rfl)⟩
 rcases Af hF with ⟨h22, hF⟩ | ⟨h22, hF⟩
 refine yT h22 ⟨L17, [B2, B6], H⟩ ?_
 refine yg ⟨L17, [B2, (4, [(.top, .int .i64 j3.Op_), (.top, .int .i64 j3.A_), (.top, .int .i64 j3.B_), (.top, .int .i64 (IntKind.wrap .i64 (A6 .and .u32 p0 15))), (.top, .int .i64 j3.Imm_)])], H⟩ ?_
 exact ⟨(T_instr_Instr.mk j3.Op_ j3.A_ j3.B_ (IntKind.wrap .i64 (A6 .and .u32 p0 15)) j3.Imm_), hF, (by kernel_rfl)⟩
 refine yF h22 ⟨L17, [B2, B6], H⟩ ?_
 refine Am ?_
 exact ⟨j3, hF, (by kernel_rfl)⟩
 rcases Af hF with ⟨h23, hF⟩ | ⟨h23, hF⟩
 refine yT h23 ⟨L18 ++ [(35, vb (r1 == 2))], [B2, B6], H⟩ ?_
 refine Am ?_
 exact ⟨(r1 == 2), hF, (by kernel_rfl)⟩
 refine yF h23 ⟨L18, [B2, B6], H⟩ ?_
 refine ysg ⟨L18 ++ [(35, vb (r1 == 4))], [B2, B6], H⟩ ?_
 refine Ar (α := (Bool)) (fun x => (⟨L18 ++ [(35, vb x)], [B2, B6], H⟩ : St)) (fun x => Ec p0 j3 r1 x = some (ra, rb)) ?_ ?_
 rintro j24 hF
 replace hF : Ec p0 j3 r1 j24 = some (ra, rb) := hF
 unfold Ec at hF
 exact ⟨j24, hF, (by kernel_rfl)⟩
 rcases Af hF with ⟨h25, hF⟩ | ⟨h25, hF⟩
 refine yT h25 ⟨L18 ++ [(35, vb (r1 == 4))], [B2, B6], H⟩ ?_
 refine Am ?_
 exact ⟨(r1 == 4), hF, (by kernel_rfl)⟩
 refine yF h25 ⟨L18, [B2, B6], H⟩ ?_
 refine yg ⟨L18 ++ [(35, vb (r1 == 8))], [B2, B6], H⟩ ?_
 exact ⟨(r1 == 8), hF, (by kernel_rfl)⟩
 rcases Af hF with ⟨h26, hF⟩ | ⟨h26, hF⟩
 refine yT h26 ⟨L18 ++ [(28, vb (r1 == 1))], [B2, B6], H⟩ ?_
 refine Am ?_
 exact ⟨(r1 == 1), hF, (by kernel_rfl)⟩
 refine yF h26 ⟨L18, [B2, B6], H⟩ ?_
 refine yg ⟨L18 ++ [(28, vb (r1 == 3))], [B2, B6], H⟩ ?_
 exact ⟨(r1 == 3), hF, (by kernel_rfl)⟩
 rcases Af hF with ⟨h27, hF⟩ | ⟨h27, hF⟩
 refine yT h27 ⟨L19, [B2, B3], H⟩ ?_
 refine yg ⟨L19, [B2, (4, [(.top, .int .i64 (IntKind.wrap .i64 (Int.fdiv p0 (2 ^ 24)))), (.top, .int .i64 (IntKind.wrap .i64 (A6 .and .u32 (Int.fdiv p0 (2 ^ 20)) 15))), (.top, .int .i64 (IntKind.wrap .i64 (A6 .and .u32 (Int.fdiv p0 (2 ^ 16)) 15))), (.top, .int .i64 0), (.top, .int .i64 0)])], H⟩ ?_
 exact ⟨(T_instr_Instr.mk (IntKind.wrap .i64 (Int.fdiv p0 (2 ^ 24))) (IntKind.wrap .i64 (A6 .and .u32 (Int.fdiv p0 (2 ^ 20)) 15)) (IntKind.wrap .i64 (A6 .and .u32 (Int.fdiv p0 (2 ^ 16)) 15)) 0 0), hF, (by kernel_rfl)⟩
 refine yF h27 ⟨L19, [B2, B3], H⟩ ?_
 refine Am ?_
 exact ⟨(T_instr_Instr.mk (IntKind.wrap .i64 (Int.fdiv p0 (2 ^ 24))) 0 0 0 0), hF, (by kernel_rfl)⟩
noncomputable def Be (H : Ai) (p0 : Ptr) (p1 : Int) (p2 : Int) : Option (Ai) :=
  (p0).bnd fun i1 o2 =>
  Ag (Ba H i1 o2) fun x4 =>
  Ag (ga x4.R_ p1) fun v6 =>
  Ag (sa x4.R_ p1 p2) fun v8 =>
  bnd (Bj H i1 o2 (T_cpu_Cpu.mk v8 x4.PC_ x4.EPC_ x4.Cause_ x4.State_ x4.Why_ x4.Steps_ x4.Taken_ x4.Out_ x4.setup_ x4.input_)) fun H10 =>
  bnd (Bj H10 i1 o2 (T_cpu_Cpu.mk v8 (IntKind.wrap .u32 (x4.PC_ + 4)) x4.EPC_ x4.Cause_ x4.State_ x4.Why_ x4.Steps_ x4.Taken_ x4.Out_ x4.setup_ x4.input_)) fun H13 =>
  some H13
theorem Bf (H : Ai) {p0 : Ptr} {p1 : Int} {p2 : Int} {Hr : Ai} (hF : Be H p0 p1 p2 = some Hr) : evS X 122 [.one .top (Ptr.av p0), .one .top (.int .i64 p1), .one .top (.int .u32 p2)] H = some (.tup [], Hr) := by
 refine yf Try.func122 false ⟨[(0, vp p0), (1, vi p1), (2, vu p2)], [], H⟩ ?_
 unfold Be at hF
 refine Ah ?_
 obtain ⟨i1, o2, h3, hF⟩ := Br hF
 let E3 : EN := (10, vo i1 o2)
 let L4 : List EN := [(0, vo i1 o2), (12, vo i1 o2), (13, vo i1 o2), (14, vo i1 (o2 + 16))]
 let L5 : List EN := [(0, vo i1 o2), (1, vi p1), (2, vu p2), (6, vo i1 o2), (7, vi p1), (8, vu p2), (9, vo i1 o2)]
 let L6 : List EN := L5 ++ [E3, (11, vo i1 (o2 + Int.toNat p1))]
 obtain ⟨x4, V5, hF⟩ := Ab hF
 replace V5 := A8 V5
 let L7 : List EN := L4 ++ [(15, vu x4.PC_), (16, vu (IntKind.wrap .u32 (x4.PC_ + 4))), (17, vo i1 o2), (18, vo i1 (o2 + 16))]
 obtain ⟨v6, h7, hF⟩ := Ab hF
 obtain ⟨v8, h9, hF⟩ := Ab hF
 let W2 : Ai := Dp H i1 o2 (arM .u32 16 v8 ++ [(.top, .int .u32 x4.PC_), (.top, .int .u32 x4.EPC_), (.top, .int .u32 x4.Cause_), (.top, .int .i64 x4.State_), (.top, .int .i64 x4.Why_), (.top, .int .i64 x4.Steps_), (.top, .int .i64 x4.Taken_), ((.own 1), .sl 2 (List.map Ae x4.Out_)), (.top, .int .u32 x4.setup_.Entry_), (.top, .int .u32 x4.setup_.Vector_), (.top, .int .u32 x4.setup_.Guard_), (.top, .int .u32 x4.setup_.Limit_), ((.own 1), .sl 1 (List.map (eI .i32) x4.input_))])
 obtain ⟨H10, h11, hF⟩ := Ci hF
 let W1 : Ai := Dp H10 i1 o2 (arM .u32 16 v8 ++ [(.top, .int .u32 (IntKind.wrap .u32 (x4.PC_ + 4))), (.top, .int .u32 x4.EPC_), (.top, .int .u32 x4.Cause_), (.top, .int .i64 x4.State_), (.top, .int .i64 x4.Why_), (.top, .int .i64 x4.Steps_), (.top, .int .i64 x4.Taken_), ((.own 1), .sl 2 (List.map Ae x4.Out_)), (.top, .int .u32 x4.setup_.Entry_), (.top, .int .u32 x4.setup_.Vector_), (.top, .int .u32 x4.setup_.Guard_), (.top, .int .u32 x4.setup_.Limit_), ((.own 1), .sl 1 (List.map (eI .i32) x4.input_))])
 have V12 : Cq H10 i1 o2 29 = some (Bx (T_cpu_Cpu.mk v8 x4.PC_ x4.EPC_ x4.Cause_ x4.State_ x4.Why_ x4.Steps_ x4.Taken_ x4.Out_ x4.setup_ x4.input_)) := by rw [← h11]; exact Bt V5 rfl
 refine Ak ⟨[(0, vo i1 o2)], [], H10⟩ ?_ ?_
 refine yr 3 ⟨[(0, vp p0), (1, vi p1), (2, vu p2), (6, vp p0), (7, vi p1), (8, vu p2)], [], H⟩ ?_ (h := (by generalize p0 = qp0; cases qp0 <;> kernel_rfl))
 refine Bc (congrArg (fun q => (⟨[(0, vp q), (1, vi p1), (2, vu p2), (6, vp q), (7, vi p1), (8, vu p2)], [], H⟩ : St)) h3) ?_
 refine yr 1 ⟨L5, [], H⟩ ?_
 refine yr 1 ⟨L5 ++ [E3], [], H⟩ ?_
 refine Aj ⟨L6, [], H⟩ (Kv (X := X) (⟨L5 ++ [E3], [], H⟩ : St) 46 35 16 h7 i1 o2 (some 11) (by kernel_rfl) (by kernel_rfl) (by kernel_rfl) (by kernel_rfl)) ?_
 refine Aj ⟨L6, [], W2⟩ (pQ (X := X) (lc := []) (h2 := W2) (⟨L6, [], H⟩ : St) 35 16 h9 V5 0 (fun q => .int .u32 q) (fun _ => rfl) (by kernel_rfl) (by kernel_rfl) (by kernel_rfl) (by kernel_rfl) (by kernel_rfl) (by kernel_rfl)) ?_
 refine Bc (congrArg (fun q => (⟨L6, [], q⟩ : St)) h11) ?_
 exact ye
 obtain ⟨H13, h14, hF⟩ := Ci hF
 have V15 : Cq H13 i1 o2 29 = some (Bx (T_cpu_Cpu.mk v8 (IntKind.wrap .u32 (x4.PC_ + 4)) x4.EPC_ x4.Cause_ x4.State_ x4.Why_ x4.Steps_ x4.Taken_ x4.Out_ x4.setup_ x4.input_)) := by rw [← h14]; exact Bt V12 rfl
 refine Ak ⟨[], [], H13⟩ ?_ ?_
 refine yr 3 ⟨L4, [], H10⟩ ?_
 refine Aj ⟨L4 ++ [(15, vu x4.PC_)], [], H10⟩ (yd (X := X) (⟨L4, [], H10⟩ : St) 35 V12 16 1 false (vu x4.PC_) (some 15)) ?_
 refine yr 3 ⟨L7, [], H10⟩ ?_
 refine Aj ⟨L7, [], W1⟩ (Gp (X := X) (lc := []) (h2 := W1) (⟨L7, [], H10⟩ : St) 35 V12 16 1 (vu (IntKind.wrap .u32 (x4.PC_ + 4))) (by kernel_rfl) (by kernel_rfl) (by kernel_rfl) (by kernel_rfl) (by kernel_rfl) (by kernel_rfl) (Ca V12 (Nat.le_of_ble_eq_true rfl)) (by kernel_rfl)) ?_
 refine Bc (congrArg (fun q => (⟨L7, [], q⟩ : St)) h14) ?_
 exact ye
 obtain e0 := Al hF
 subst e0
 exact yi (vN)
noncomputable def Jw (j8 : Int) : Option (Int × Bool) :=
  some (j8, true)
noncomputable def Nf  (p0 : Int) (p1 : Int) : Option (Int × Bool) :=
  if (p1 == 0) = true then (some (0, false))
  else (if (p1 == (-1)) = true then (some ((IntKind.wrap .i32 (0 - p0)), true))
  else (Ag (Zn .i32 p0 p1) fun v3 =>
  Ag (Uc .i32 p0 p1) fun v5 =>
  if ((v5 != 0) && ((decide (p0 < 0)) != (decide (p1 < 0)))) = true then (Jw (IntKind.wrap .i32 (v3 - 1)))
  else (Jw v3)))
theorem dU (H : Ai) {p0 : Int} {p1 : Int} {ra : Int} {rb : Bool} (hF : Nf p0 p1 = some (ra, rb)) : evS X 136 [.one .top (.int .i32 p0), .one .top (.int .i32 p1)] H = some (.tup [.one .top (.int .i32 ra), .one .top (.bool rb)], H) := by
 let E1 : EN := (7, .one .top (.int .i32 p1))
 let E2 : EN := (0, .one .top (.int .i32 p0))
 let E4 : EN := (14, .one .top (.int .i32 p0))
 let E5 : EN := (15, .one .top (.int .i32 p1))
 let L7 : List EN := [E2, (1, .one .top (.int .i32 p1))]
 refine yf Try.func136 true ⟨L7, [], H⟩ ?_
 unfold Nf at hF
 refine ysg ⟨L7, [], H⟩ ?_
 refine Ah ?_
 refine ysg ⟨L7 ++ [E1], [], H⟩ ?_
 refine Bs ?_
 refine ysg ⟨L7 ++ [E1, (8, vb (p1 == 0))], [], H⟩ ?_
 rcases Af hF with ⟨h1, hF⟩ | ⟨h1, hF⟩
 refine yT h1 ⟨[], [], H⟩ ?_
 refine ysg ⟨[(4, .one .top (.int .i32 0)), (5, vF)], [], H⟩ ?_
 refine As ?_
 obtain ⟨e0, e1⟩ := Ap hF
 subst e0
 subst e1
 exact yp (.tup [.one .top (.int .i32 0), vF])
 refine yF h1 ⟨L7 ++ [E1], [], H⟩ ?_
 refine ysg ⟨L7 ++ [(10, vb (p1 == (-1)))], [], H⟩ ?_
 rcases Af hF with ⟨h2, hF⟩ | ⟨h2, hF⟩
 refine yT h2 ⟨[E2], [], H⟩ ?_
 refine ysg ⟨[(4, .one .top (.int .i32 (IntKind.wrap .i32 (0 - p0)))), (5, vT)], [], H⟩ ?_
 refine As ?_
 obtain ⟨e0, e1⟩ := Ap hF
 subst e0
 subst e1
 exact yp (.tup [.one .top (.int .i32 (IntKind.wrap .i32 (0 - p0))), vT])
 refine yF h2 ⟨L7, [], H⟩ ?_
 refine Am ?_
 refine Ah ?_
 obtain ⟨v3, h4, hF⟩ := Ab hF
 let E3 : EN := (6, .one .top (.int .i32 v3))
 let E6 : EN := (16, .one .top (.int .i32 v3))
 let L8 : List EN := L7 ++ [E3, (17, .one .top (.int .i32 p0)), (18, .one .top (.int .i32 p1))]
 refine Ak ⟨L7 ++ [E3], [], H⟩ ?_ ?_
 refine yr 2 ⟨L7 ++ [E4, E5], [], H⟩ ?_
 refine Aj ⟨L7 ++ [E4, E5, E6], [], H⟩ (Mz (⟨L7 ++ [E4, E5], [], H⟩ : St) .i32 h4 (lX (P := X.P) (ty := 21) (x := (.tmp 14)) (y := (.tmp 15)) (m := .top) (m' := .top) (k := .i32) (a := p0) (b := p1)) (some 16) (by kernel_rfl) (by kernel_rfl)) ?_
 refine yr 1 ⟨L7 ++ [E3, E4, E5, E6], [], H⟩ ?_
 exact ye
 refine Ah ?_
 refine Ah ?_
 obtain ⟨v5, h6, hF⟩ := Ab hF
 let L9 : List EN := L8 ++ [(19, .one .top (.int .i32 v5))]
 refine Ak ⟨[E3, (27, vb ((v5 != 0) && ((decide (p0 < 0)) != (decide (p1 < 0)))))], [], H⟩ ?_ ?_
 refine yr 2 ⟨L8, [], H⟩ ?_
 refine Aj ⟨L9, [], H⟩ (Mz (⟨L8, [], H⟩ : St) .i32 h6 (fU (P := X.P) (ty := 21) (x := (.tmp 17)) (y := (.tmp 18)) (m := .top) (m' := .top) (k := .i32) (a := p0) (b := p1)) (some 19) (by kernel_rfl) (by kernel_rfl)) ?_
 refine yr 2 ⟨L9 ++ [(20, vb (v5 != 0)), (21, vb (v5 != 0))], [], H⟩ ?_
 rcases Aw (v5 != 0) with h7 | h7
 refine Bc (congrArg (fun q => (⟨L9 ++ [(20, vb q), (21, vb q)], [], H⟩ : St)) h7) ?_
 refine yr 6 ⟨L9 ++ [(20, vT), (21, vT), (22, .one .top (.int .i32 p0)), (23, vb (decide (p0 < 0))), (24, .one .top (.int .i32 p1)), (25, vb (decide (p1 < 0))), (26, vb ((decide (p0 < 0)) != (decide (p1 < 0)))), (27, vb ((decide (p0 < 0)) != (decide (p1 < 0))))], [], H⟩ ?_
 refine Bw (congrArg (fun q0 => (⟨[E3, (27, vb q0)], [], H⟩ : St)) (show ((decide (p0 < 0)) != (decide (p1 < 0))) = ((v5 != 0) && ((decide (p0 < 0)) != (decide (p1 < 0)))) by simp [h7])) ?_
 exact ye
 refine Bc (congrArg (fun q => (⟨L9 ++ [(20, vb q), (21, vb q)], [], H⟩ : St)) h7) ?_
 refine yr 6 ⟨L9 ++ [(20, vF), (21, vF), (22, vN), (23, vN), (24, vN), (25, vN), (26, vN), (27, vF)], [], H⟩ ?_
 refine Bw (congrArg (fun q0 => (⟨[E3, (27, vb q0)], [], H⟩ : St)) (show false = ((v5 != 0) && ((decide (p0 < 0)) != (decide (p1 < 0)))) by simp [h7])) ?_
 exact ye
 refine Ar (α := (Int)) (fun x => (⟨[(6, .one .top (.int .i32 x))], [], H⟩ : St)) (fun x => Jw x = some (ra, rb)) ?_ ?_
 rintro j8 hF
 replace hF : Jw j8 = some (ra, rb) := hF
 unfold Jw at hF
 refine ysg ⟨[(4, .one .top (.int .i32 j8)), (5, vT)], [], H⟩ ?_
 refine As ?_
 obtain ⟨e0, e1⟩ := Ap hF
 subst e0
 subst e1
 exact yp (.tup [.one .top (.int .i32 j8), vT])
 rcases Af hF with ⟨h9, hF⟩ | ⟨h9, hF⟩
 refine yT h9 ⟨[E3], [], H⟩ ?_
 refine yg ⟨[(6, .one .top (.int .i32 (IntKind.wrap .i32 (v3 - 1))))], [], H⟩ ?_
 exact ⟨(IntKind.wrap .i32 (v3 - 1)), hF, (by kernel_rfl)⟩
 refine yF h9 ⟨[E3], [], H⟩ ?_
 refine Am ?_
 exact ⟨v3, hF, (by kernel_rfl)⟩
noncomputable def Jx (j6 : Int) : Option (Int × Bool) :=
  some (j6, true)
noncomputable def Ng  (p0 : Int) (p1 : Int) : Option (Int × Bool) :=
  if (p1 == 0) = true then (some (0, false))
  else (if (p1 == (-1)) = true then (some (0, true))
  else (Ag (Uc .i32 p0 p1) fun v3 =>
  if ((v3 != 0) && ((decide (v3 < 0)) != (decide (p1 < 0)))) = true then (Jx (IntKind.wrap .i32 (v3 + p1)))
  else (Jx v3)))
theorem dV (H : Ai) {p0 : Int} {p1 : Int} {ra : Int} {rb : Bool} (hF : Ng p0 p1 = some (ra, rb)) : evS X 137 [.one .top (.int .i32 p0), .one .top (.int .i32 p1)] H = some (.tup [.one .top (.int .i32 ra), .one .top (.bool rb)], H) := by
 let E1 : EN := (1, .one .top (.int .i32 p1))
 let E2 : EN := (7, .one .top (.int .i32 p1))
 let E3 : EN := (4, .one .top (.int .i32 0))
 let E4 : EN := (12, .one .top (.int .i32 p0))
 let E5 : EN := (13, .one .top (.int .i32 p1))
 let L8 : List EN := [(0, .one .top (.int .i32 p0)), E1]
 refine yf Try.func137 true ⟨L8, [], H⟩ ?_
 unfold Ng at hF
 refine ysg ⟨L8, [], H⟩ ?_
 refine Ah ?_
 refine ysg ⟨L8 ++ [E2], [], H⟩ ?_
 refine Bs ?_
 refine ysg ⟨L8 ++ [E2, (8, vb (p1 == 0))], [], H⟩ ?_
 rcases Af hF with ⟨h1, hF⟩ | ⟨h1, hF⟩
 refine yT h1 ⟨[], [], H⟩ ?_
 refine ysg ⟨[E3, (5, vF)], [], H⟩ ?_
 refine As ?_
 obtain ⟨e0, e1⟩ := Ap hF
 subst e0
 subst e1
 exact yp (.tup [.one .top (.int .i32 0), vF])
 refine yF h1 ⟨L8 ++ [E2], [], H⟩ ?_
 refine ysg ⟨L8 ++ [(10, vb (p1 == (-1)))], [], H⟩ ?_
 rcases Af hF with ⟨h2, hF⟩ | ⟨h2, hF⟩
 refine yT h2 ⟨[], [], H⟩ ?_
 refine ysg ⟨[E3, (5, vT)], [], H⟩ ?_
 refine As ?_
 obtain ⟨e0, e1⟩ := Ap hF
 subst e0
 subst e1
 exact yp (.tup [.one .top (.int .i32 0), vT])
 refine yF h2 ⟨L8, [], H⟩ ?_
 refine Am ?_
 refine Ah ?_
 obtain ⟨v3, h4, hF⟩ := Ab hF
 let E6 : EN := (14, .one .top (.int .i32 v3))
 let E7 : EN := (6, .one .top (.int .i32 v3))
 let L9 : List EN := [E1, E7]
 let L10 : List EN := L9 ++ [(15, .one .top (.int .i32 v3))]
 refine Ak ⟨L9, [], H⟩ ?_ ?_
 refine yr 2 ⟨L8 ++ [E4, E5], [], H⟩ ?_
 refine Aj ⟨L8 ++ [E4, E5, E6], [], H⟩ (Mz (⟨L8 ++ [E4, E5], [], H⟩ : St) .i32 h4 (fU (P := X.P) (ty := 21) (x := (.tmp 12)) (y := (.tmp 13)) (m := .top) (m' := .top) (k := .i32) (a := p0) (b := p1)) (some 14) (by kernel_rfl) (by kernel_rfl)) ?_
 refine yr 1 ⟨L8 ++ [E7, E4, E5, E6], [], H⟩ ?_
 exact ye
 refine Ah ?_
 refine yso ⟨L9 ++ [(23, vb ((v3 != 0) && ((decide (v3 < 0)) != (decide (p1 < 0)))))], [], H⟩ ?_ ?_
 refine yr 3 ⟨L10 ++ [(16, vb (v3 != 0)), (17, vb (v3 != 0))], [], H⟩ ?_
 rcases Aw (v3 != 0) with h5 | h5
 refine Bc (congrArg (fun q => (⟨L10 ++ [(16, vb q), (17, vb q)], [], H⟩ : St)) h5) ?_
 refine yr 6 ⟨L10 ++ [(16, vT), (17, vT), (18, .one .top (.int .i32 v3)), (19, vb (decide (v3 < 0))), (20, .one .top (.int .i32 p1)), (21, vb (decide (p1 < 0))), (22, vb ((decide (v3 < 0)) != (decide (p1 < 0)))), (23, vb ((decide (v3 < 0)) != (decide (p1 < 0))))], [], H⟩ ?_
 refine Bw (congrArg (fun q0 => (⟨L9 ++ [(23, vb q0)], [], H⟩ : St)) (show ((decide (v3 < 0)) != (decide (p1 < 0))) = ((v3 != 0) && ((decide (v3 < 0)) != (decide (p1 < 0)))) by simp [h5])) ?_
 exact ye
 refine Bc (congrArg (fun q => (⟨L10 ++ [(16, vb q), (17, vb q)], [], H⟩ : St)) h5) ?_
 refine yr 6 ⟨L10 ++ [(16, vF), (17, vF), (18, vN), (19, vN), (20, vN), (21, vN), (22, vN), (23, vF)], [], H⟩ ?_
 refine Bw (congrArg (fun q0 => (⟨L9 ++ [(23, vb q0)], [], H⟩ : St)) (show false = ((v3 != 0) && ((decide (v3 < 0)) != (decide (p1 < 0)))) by simp [h5])) ?_
 exact ye
 refine Ar (α := (Int)) (fun x => (⟨[(6, .one .top (.int .i32 x))], [], H⟩ : St)) (fun x => Jx x = some (ra, rb)) ?_ ?_
 rintro j6 hF
 replace hF : Jx j6 = some (ra, rb) := hF
 unfold Jx at hF
 refine ysg ⟨[(4, .one .top (.int .i32 j6)), (5, vT)], [], H⟩ ?_
 refine As ?_
 obtain ⟨e0, e1⟩ := Ap hF
 subst e0
 subst e1
 exact yp (.tup [.one .top (.int .i32 j6), vT])
 rcases Af hF with ⟨h7, hF⟩ | ⟨h7, hF⟩
 refine yT h7 ⟨L9, [], H⟩ ?_
 refine yg ⟨[(6, .one .top (.int .i32 (IntKind.wrap .i32 (v3 + p1))))], [], H⟩ ?_
 exact ⟨(IntKind.wrap .i32 (v3 + p1)), hF, (by kernel_rfl)⟩
 refine yF h7 ⟨[E7], [], H⟩ ?_
 refine Am ?_
 exact ⟨v3, hF, (by kernel_rfl)⟩
noncomputable def Cu (H : Ai) (p0 : Ptr) (p1 : Int) : Option (Ai) :=
  (p0).bnd fun i1 o2 =>
  Ag (Ba H i1 o2) fun x4 =>
  if (decide (x4.PC_ < x4.setup_.Guard_)) = true then (Ag (Bq H (Ptr.at i1 o2) 111) fun H8 =>
  some H8)
  else (bnd (Bj H i1 o2 (T_cpu_Cpu.mk x4.R_ x4.setup_.Vector_ x4.PC_ p1 x4.State_ x4.Why_ x4.Steps_ x4.Taken_ x4.Out_ x4.setup_ x4.input_)) fun H9 =>
  some H9)
theorem Fs (H : Ai) {p0 : Ptr} {p1 : Int} {Hr : Ai} (hF : Cu H p0 p1 = some Hr) : evS X 127 [.one .top (Ptr.av p0), .one .top (.int .u32 p1)] H = some (.tup [], Hr) := by
 refine yf Try.func127 false ⟨[(0, vp p0), (1, vu p1)], [], H⟩ ?_
 unfold Cu at hF
 refine Ah ?_
 refine Ah ?_
 obtain ⟨i1, o2, h3, hF⟩ := Br hF
 let E6 : EN := (0, vo i1 o2)
 let E7 : EN := (14, vo i1 o2)
 let E8 : EN := (16, vo i1 o2)
 let E9 : EN := (17, vo i1 o2)
 let E10 : EN := (26, vo i1 (o2 + 24))
 let E12 : EN := (29, vo i1 o2)
 let E13 : EN := (31, vo i1 o2)
 let E14 : EN := (33, vo i1 o2)
 let L15 : List EN := [E6, (1, vu p1)]
 let L16 : List EN := L15 ++ [E8, E9, (18, vo i1 o2), (19, vo i1 o2)]
 let L17 : List EN := L16 ++ [(20, vo i1 o2), (21, vo i1 (o2 + 16))]
 let L18 : List EN := [(23, vu p1), (24, vo i1 o2), (25, vo i1 o2)]
 let L22 : List EN := L15 ++ [(4, vo i1 o2), (5, vo i1 o2), (6, vo i1 (o2 + 16))]
 let L25 : List EN := L17 ++ L18 ++ [E10, (27, vo i1 (o2 + 25))]
 obtain ⟨x4, V5, hF⟩ := Ab hF
 replace V5 := A8 V5
 let W1 : Ai := Dp H i1 o2 (arM .u32 16 x4.R_ ++ [(.top, .int .u32 x4.PC_), (.top, .int .u32 x4.PC_), (.top, .int .u32 x4.Cause_), (.top, .int .i64 x4.State_), (.top, .int .i64 x4.Why_), (.top, .int .i64 x4.Steps_), (.top, .int .i64 x4.Taken_), ((.own 1), .sl 2 (List.map Ae x4.Out_)), (.top, .int .u32 x4.setup_.Entry_), (.top, .int .u32 x4.setup_.Vector_), (.top, .int .u32 x4.setup_.Guard_), (.top, .int .u32 x4.setup_.Limit_), ((.own 1), .sl 1 (List.map (eI .i32) x4.input_))])
 let W2 : Ai := Dp H i1 o2 (arM .u32 16 x4.R_ ++ [(.top, .int .u32 x4.PC_), (.top, .int .u32 x4.PC_), (.top, .int .u32 p1), (.top, .int .i64 x4.State_), (.top, .int .i64 x4.Why_), (.top, .int .i64 x4.Steps_), (.top, .int .i64 x4.Taken_), ((.own 1), .sl 2 (List.map Ae x4.Out_)), (.top, .int .u32 x4.setup_.Entry_), (.top, .int .u32 x4.setup_.Vector_), (.top, .int .u32 x4.setup_.Guard_), (.top, .int .u32 x4.setup_.Limit_), ((.own 1), .sl 1 (List.map (eI .i32) x4.input_))])
 let W3 : Ai := Dp H i1 o2 (arM .u32 16 x4.R_ ++ [(.top, .int .u32 x4.setup_.Vector_), (.top, .int .u32 x4.PC_), (.top, .int .u32 p1), (.top, .int .i64 x4.State_), (.top, .int .i64 x4.Why_), (.top, .int .i64 x4.Steps_), (.top, .int .i64 x4.Taken_), ((.own 1), .sl 2 (List.map Ae x4.Out_)), (.top, .int .u32 x4.setup_.Entry_), (.top, .int .u32 x4.setup_.Vector_), (.top, .int .u32 x4.setup_.Guard_), (.top, .int .u32 x4.setup_.Limit_), ((.own 1), .sl 1 (List.map (eI .i32) x4.input_))])
 let E4 : EN := (13, vb (decide (x4.PC_ < x4.setup_.Guard_)))
 let E5 : EN := (12, vu x4.setup_.Guard_)
 let E11 : EN := (28, vu x4.setup_.Vector_)
 let L19 : List EN := L17 ++ [(22, vu x4.PC_)] ++ L18 ++ [E10, (27, vo i1 (o2 + 25))]
 let L20 : List EN := L19 ++ [E11, E12, (30, vo i1 (o2 + 17))]
 let L21 : List EN := L20 ++ [E13, (32, vo i1 (o2 + 18))]
 let L23 : List EN := L21 ++ [E14, (34, vo i1 (o2 + 16))]
 let L24 : List EN := L22 ++ [(7, vu x4.PC_), (8, vo i1 o2)]
 let L26 : List EN := L24 ++ [(9, vo i1 o2), (10, vo i1 (o2 + 24)), (11, vo i1 (o2 + 26))]
 refine Bn (.take 0 (.take 1 (.take 2 (.take 3 (.take 4 (.take 5 (.take 6 (.take 7 (.take 8 (.take 9 .done)))))))))) (by kernel_rfl) (⟨L15 ++ [E4], [], H⟩ : St) ?_ ?_
 refine Ao ⟨[(0, vp p0), (1, vu p1), (4, vp p0)], [], H⟩ (by generalize p0 = qp0; cases qp0 <;> kernel_rfl) ?_
 refine Fe (congrArg (fun q => (⟨[(0, vp q), (1, vu p1), (4, vp q)], [], H⟩ : St)) h3) ?_
 refine ydk 2 ⟨L22, [], H⟩ ?_
 refine Ao ⟨L22 ++ [(7, vu x4.PC_)], [], H⟩ (yd (X := X) (⟨L22, [], H⟩ : St) 35 V5 16 1 false (vu x4.PC_) (some 7)) ?_
 refine ydk 4 ⟨L26, [], H⟩ ?_
 refine Ao ⟨L26 ++ [E5], [], H⟩ (yd (X := X) (⟨L26, [], H⟩ : St) 35 V5 26 1 false (vu x4.setup_.Guard_) (some 12)) ?_
 refine ydt ⟨L26 ++ [E5, E4], [], H⟩ ?_
 exact yde
 rcases Af hF with ⟨h6, hF⟩ | ⟨h6, hF⟩
 refine yT h6 ⟨[E6], [], H⟩ ?_
 refine Ah ?_
 obtain ⟨H8, c7, hF⟩ := Ab hF
 refine Ak ⟨[], [], H8⟩ ?_ ?_
 refine yr 1 ⟨[E6, E7], [], H⟩ ?_
 refine Aj ⟨[E6, E7, (15, vN)], [], H8⟩ (yc (some 15) false false (⟨[E6, E7], [], H⟩ : St) (Ff H c7)) ?_
 exact ye
 refine As ?_
 obtain e0 := Al hF
 subst e0
 exact yi (vN)
 refine yF h6 ⟨L15, [], H⟩ ?_
 refine Am ?_
 obtain ⟨H9, h10, hF⟩ := Ci hF
 have V11 : Cq H9 i1 o2 29 = some (Bx (T_cpu_Cpu.mk x4.R_ x4.setup_.Vector_ x4.PC_ p1 x4.State_ x4.Why_ x4.Steps_ x4.Taken_ x4.Out_ x4.setup_ x4.input_)) := by rw [← h10]; exact Bt V5 rfl
 let K27 : Sch := .take 13 (.take 14 (.last 15 (.take 16 (.take 17 (.last 18 (.take 19 (.take 20 (.last 21 .done))))))))
 refine Bn (.take 0 (.take 1 (.take 2 (.take 3 (.take 4 (.take 5 (.take 7 (.take 8 (.take 9 (.take 10 (.take 11 (.alt 6 (.last 12 K27) (.last 12 (.last 6 K27)))))))))))))) (by kernel_rfl) (⟨[], [], H9⟩ : St) ?_ ?_
 refine ydk 11 ⟨L25, [], H⟩ ?_
 refine jV (⟨L23, [], W3⟩ : St) ?_ ?_
 refine P2 ⟨L19, [], H⟩ (yd (X := X) (⟨L25, [], H⟩ : St) 35 V5 16 1 false (vu x4.PC_) (some 22)) ?_ ?_
 refine Bz ⟨L19 ++ [E11], [], H⟩ (yd (X := X) (⟨L19, [], H⟩ : St) 35 V5 25 1 false (vu x4.setup_.Vector_) (some 28)) ?_
 refine yqt ⟨L19 ++ [E11, E12], [], H⟩ ?_
 refine yqt ⟨L20, [], H⟩ ?_
 refine Bz ⟨L20, [], W1⟩ (Gp (X := X) (lc := []) (h2 := W1) (⟨L20, [], H⟩ : St) 35 V5 17 1 (vu x4.PC_) (by kernel_rfl) (by kernel_rfl) (by kernel_rfl) (by kernel_rfl) (by kernel_rfl) (by kernel_rfl) (Ca V5 (Nat.le_of_ble_eq_true rfl)) (by kernel_rfl)) ?_
 refine yqt ⟨L20 ++ [E13], [], W1⟩ ?_
 refine yqt ⟨L21, [], W1⟩ ?_
 refine Bz ⟨L21, [], W2⟩ (Gp (X := X) (lc := []) (h2 := W2) (⟨L21, [], W1⟩ : St) 35 (Bt V5 rfl) 18 1 (vu p1) (by kernel_rfl) (by kernel_rfl) (by kernel_rfl) (by kernel_rfl) (by kernel_rfl) (by kernel_rfl) (Lp V5 rfl (Nat.le_of_ble_eq_true rfl)) (by kernel_rfl)) ?_
 refine yqt ⟨L21 ++ [E14], [], W2⟩ ?_
 refine yqt ⟨L23, [], W2⟩ ?_
 refine Bz ⟨L23, [], W3⟩ (Gp (X := X) (lc := []) (h2 := W3) (⟨L23, [], W2⟩ : St) 35 (Bt V5 rfl) 16 1 (vu x4.setup_.Vector_) (by kernel_rfl) (by kernel_rfl) (by kernel_rfl) (by kernel_rfl) (by kernel_rfl) (by kernel_rfl) (Lp V5 rfl (Nat.le_of_ble_eq_true rfl)) (by kernel_rfl)) ?_
 exact yqe
 refine Bz ⟨L25 ++ [E11], [], H⟩ (yd (X := X) (⟨L25, [], H⟩ : St) 35 V5 25 1 false (vu x4.setup_.Vector_) (some 28)) ?_
 refine Bz ⟨L19 ++ [E11], [], H⟩ (yd (X := X) (⟨L25 ++ [E11], [], H⟩ : St) 35 V5 16 1 false (vu x4.PC_) (some 22)) ?_
 refine yqt ⟨L19 ++ [E11, E12], [], H⟩ ?_
 refine yqt ⟨L20, [], H⟩ ?_
 refine Bz ⟨L20, [], W1⟩ (Gp (X := X) (lc := []) (h2 := W1) (⟨L20, [], H⟩ : St) 35 V5 17 1 (vu x4.PC_) (by kernel_rfl) (by kernel_rfl) (by kernel_rfl) (by kernel_rfl) (by kernel_rfl) (by kernel_rfl) (Ca V5 (Nat.le_of_ble_eq_true rfl)) (by kernel_rfl)) ?_
 refine yqt ⟨L20 ++ [E13], [], W1⟩ ?_
 refine yqt ⟨L21, [], W1⟩ ?_
 refine Bz ⟨L21, [], W2⟩ (Gp (X := X) (lc := []) (h2 := W2) (⟨L21, [], W1⟩ : St) 35 (Bt V5 rfl) 18 1 (vu p1) (by kernel_rfl) (by kernel_rfl) (by kernel_rfl) (by kernel_rfl) (by kernel_rfl) (by kernel_rfl) (Lp V5 rfl (Nat.le_of_ble_eq_true rfl)) (by kernel_rfl)) ?_
 refine yqt ⟨L21 ++ [E14], [], W2⟩ ?_
 refine yqt ⟨L23, [], W2⟩ ?_
 refine Bz ⟨L23, [], W3⟩ (Gp (X := X) (lc := []) (h2 := W3) (⟨L23, [], W2⟩ : St) 35 (Bt V5 rfl) 16 1 (vu x4.setup_.Vector_) (by kernel_rfl) (by kernel_rfl) (by kernel_rfl) (by kernel_rfl) (by kernel_rfl) (by kernel_rfl) (Lp V5 rfl (Nat.le_of_ble_eq_true rfl)) (by kernel_rfl)) ?_
 exact yqe
 refine lU (congrArg (fun q => (⟨L23, [], q⟩ : St)) h10) ?_
 kernel_rfl
 obtain e0 := Al hF
 subst e0
 exact yi (vN)
noncomputable def Dm (H : Ai) (p0 : Ptr) (p1 : T_instr_Instr) (j4 : Int) (j5 : Bool) : Option (Ai) :=
  if (!j5) = true then (Ag (Cu H p0 3) fun H8 =>
  some H8)
  else (Ag (Be H p0 p1.A_ (IntKind.wrap .u32 j4)) fun H10 =>
  some H10)
noncomputable def Jy (H : Ai) (p0 : Ptr) (p1 : T_instr_Instr) (p2 : Int) (p3 : Int) : Option (Ai) :=
  Ch (Nf p2 p3) fun r1 r2 =>
  if (p1.Op_ == 10) = true then (Ch (Ng p2 p3) fun r12 r13 =>
  Dm H p0 p1 r12 r13)
  else (Dm H p0 p1 r1 r2)
theorem Um (H : Ai) {p0 : Ptr} {p1 : T_instr_Instr} {p2 : Int} {p3 : Int} {Hr : Ai} (hF : Jy H p0 p1 p2 p3 = some Hr) : evS X 123 [.one .top (Ptr.av p0), .agg (Aq p1), .one .top (.int .i32 p2), .one .top (.int .i32 p3)] H = some (.tup [], Hr) := by
 let E1 : Ptr → EN := fun z0 => (0, vp z0)
 let E2 : EN := (2, .one .top (.int .i32 p2))
 let E3 : EN := (3, .one .top (.int .i32 p3))
 let B4 : EB := (5, (Aq p1))
 let E6 : EN := (11, .one .top (.int .i32 p2))
 let E7 : EN := (12, .one .top (.int .i32 p3))
 let E11 : EN := (20, .one .top (.int .i32 p2))
 let E12 : EN := (21, .one .top (.int .i32 p3))
 let L14 : Ptr → List EN := fun z0 => [(E1 z0), E2, E3, (5, vl 5 0)]
 let L15 : Ptr → List EN := fun z0 => [(E1 z0), (5, vl 5 0)]
 let S17 : Ptr → St := fun z0 => ⟨[(E1 z0), (27, vp z0)], [], H⟩
 refine yf Try.func123 false ⟨[(E1 p0), (1, .agg (Aq p1)), E2, E3], [], H⟩ ?_
 unfold Jy at hF
 refine ysg ⟨(L14 p0), [B4], H⟩ ?_ (h := (by generalize p0 = qp0; cases qp0 <;> kernel_rfl))
 refine Ah ?_
 obtain ⟨r1, r2, c3, hF⟩ := Bg hF
 let E5 : EN := (8, .one .top (.int .i32 r1))
 let E8 : EN := (13, .tup [.one .top (.int .i32 r1), vb r2])
 refine Ak ⟨(L14 p0) ++ [E5, (9, vb r2)], [B4], H⟩ ?_ ?_
 refine yr 2 ⟨(L14 p0) ++ [E6, E7], [B4], H⟩ ?_ (h := (by generalize p0 = qp0; cases qp0 <;> kernel_rfl))
 refine Aj ⟨(L14 p0) ++ [E6, E7, E8], [B4], H⟩ (yc (some 13) true false (⟨(L14 p0) ++ [E6, E7], [B4], H⟩ : St) (dU H c3) (hr := (by generalize p0 = qp0; cases qp0 <;> kernel_rfl)) (hs := (by generalize p0 = qp0; cases qp0 <;> kernel_rfl))) ?_
 refine yr 5 ⟨(L14 p0) ++ [E5, (9, vb r2), (10, .tup [.one .top (.int .i32 r1), vb r2]), E6, E7, E8, (14, .one .top (.int .i32 r1)), (15, vb r2)], [B4], H⟩ ?_ (h := (by generalize p0 = qp0; cases qp0 <;> kernel_rfl))
 exact ye
 refine Ah ?_
 refine ysg ⟨(L14 p0) ++ [E5, (9, vb r2), (18, vb (p1.Op_ == 10))], [B4], H⟩ ?_ (h := (by generalize p0 = qp0; cases qp0 <;> kernel_rfl))
 refine Ar (α := (Int × Bool)) (fun x => (⟨(L15 p0) ++ [(8, .one .top (.int .i32 x.1)), (9, vb x.2)], [B4], H⟩ : St)) (fun x => Dm H p0 p1 x.1 x.2 = some Hr) ?_ ?_
 rintro ⟨j4, j5⟩ hF
 replace hF : Dm H p0 p1 j4 j5 = some Hr := hF
 let E9 : EN := (8, .one .top (.int .i32 j4))
 let L16 : Ptr → List EN := fun z0 => (L15 z0) ++ [E9, (29, vp z0), (30, vl 5 1), (31, vi p1.A_), (32, .one .top (.int .i32 j4)), (33, vu (IntKind.wrap .u32 j4))]
 unfold Dm at hF
 refine Ah ?_
 refine ysg ⟨(L15 p0) ++ [E9, (26, vb (!j5))], [B4], H⟩ ?_ (h := (by generalize p0 = qp0; cases qp0 <;> kernel_rfl))
 rcases Af hF with ⟨h6, hF⟩ | ⟨h6, hF⟩
 refine yT h6 ⟨[(E1 p0)], [], H⟩ ?_
 refine Ah ?_
 obtain ⟨H8, c7, hF⟩ := Ab hF
 refine Ak ⟨[], [], H8⟩ ?_ ?_
 refine yr 1 (S17 p0) ?_ (h := (by generalize p0 = qp0; cases qp0 <;> kernel_rfl))
 refine Aj ⟨[(E1 p0), (27, vp p0), (28, vN)], [], H8⟩ (yc (some 28) false false (S17 p0) (Fs H c7) (hr := (by generalize p0 = qp0; cases qp0 <;> kernel_rfl)) (hs := (by generalize p0 = qp0; cases qp0 <;> kernel_rfl))) ?_
 exact ye
 refine As ?_
 obtain e0 := Al hF
 subst e0
 exact yi (vN)
 refine yF h6 ⟨(L15 p0) ++ [E9], [B4], H⟩ ?_
 refine Am ?_
 obtain ⟨H10, c9, hF⟩ := Ab hF
 refine Ak ⟨[], [], H10⟩ ?_ ?_
 refine yr 5 ⟨(L16 p0), [B4], H⟩ ?_ (h := (by generalize p0 = qp0; cases qp0 <;> kernel_rfl))
 refine Aj ⟨(L16 p0) ++ [(34, vN)], [B4], H10⟩ (yc (some 34) false false (⟨(L16 p0), [B4], H⟩ : St) (Bf H c9) (hr := (by generalize p0 = qp0; cases qp0 <;> kernel_rfl)) (hs := (by generalize p0 = qp0; cases qp0 <;> kernel_rfl))) ?_
 exact ye
 obtain e0 := Al hF
 subst e0
 exact yi (vN)
 rcases Af hF with ⟨h11, hF⟩ | ⟨h11, hF⟩
 refine yT h11 ⟨(L14 p0), [B4], H⟩ ?_
 obtain ⟨r12, r13, c14, hF⟩ := Bg hF
 let E10 : EN := (8, .one .top (.int .i32 r12))
 let E13 : EN := (22, .tup [.one .top (.int .i32 r12), vb r13])
 refine Ak ⟨(L15 p0) ++ [E10, (9, vb r13)], [B4], H⟩ ?_ ?_
 refine yr 2 ⟨(L14 p0) ++ [E11, E12], [B4], H⟩ ?_ (h := (by generalize p0 = qp0; cases qp0 <;> kernel_rfl))
 refine Aj ⟨(L14 p0) ++ [E11, E12, E13], [B4], H⟩ (yc (some 22) true false (⟨(L14 p0) ++ [E11, E12], [B4], H⟩ : St) (dV H c14) (hr := (by generalize p0 = qp0; cases qp0 <;> kernel_rfl)) (hs := (by generalize p0 = qp0; cases qp0 <;> kernel_rfl))) ?_
 refine yr 5 ⟨(L14 p0) ++ [E10, (9, vb r13), (19, .tup [.one .top (.int .i32 r12), vb r13]), E11, E12, E13, (23, .one .top (.int .i32 r12)), (24, vb r13)], [B4], H⟩ ?_ (h := (by generalize p0 = qp0; cases qp0 <;> kernel_rfl))
 exact ye
 exact ⟨(r12, r13), hF, (by kernel_rfl)⟩
 refine yF h11 ⟨(L15 p0) ++ [E5, (9, vb r2)], [B4], H⟩ ?_
 refine Am ?_
 exact ⟨(r1, r2), hF, (by kernel_rfl)⟩
noncomputable def Nh  (p0 : Bool) : Option (Int) :=
  if p0 = true then (some 1)
  else (some 0)
theorem O9 (H : Ai) {p0 : Bool} {ra : Int} (hF : Nh p0 = some ra) : evS X 124 [.one .top (.bool p0)] H = some (.one .top (.int .u32 ra), H) := by
 refine yf Try.func124 true ⟨[(0, vb p0)], [], H⟩ ?_
 unfold Nh at hF
 refine ysg ⟨[(0, vb p0)], [], H⟩ ?_
 refine Ah ?_
 refine ysg ⟨[(3, vb p0)], [], H⟩ ?_
 rcases Af hF with ⟨h1, hF⟩ | ⟨h1, hF⟩
 refine yT h1 ⟨[], [], H⟩ ?_
 refine ysg ⟨[(2, vu 1)], [], H⟩ ?_
 refine As ?_
 obtain e0 := Al hF
 subst e0
 exact yp (vu 1)
 refine yF h1 ⟨[], [], H⟩ ?_
 refine Am ?_
 refine ysg ⟨[(2, vu 0)], [], H⟩ ?_
 refine As ?_
 obtain e0 := Al hF
 subst e0
 exact yp (vu 0)
noncomputable def Fx (H10 : Ai) : Option (Ai) :=
  some H10
noncomputable def Fy (H14 : Ai) : Option (Ai) :=
  Fx H14
noncomputable def Fz (H18 : Ai) : Option (Ai) :=
  Fy H18
noncomputable def F0 (H23 : Ai) : Option (Ai) :=
  Fz H23
noncomputable def F1 (H27 : Ai) : Option (Ai) :=
  F0 H27
noncomputable def F2 (H31 : Ai) : Option (Ai) :=
  F1 H31
noncomputable def F3 (H35 : Ai) : Option (Ai) :=
  F2 H35
noncomputable def F4 (H39 : Ai) : Option (Ai) :=
  F3 H39
noncomputable def Fi (H45 : Ai) : Option (Ai) :=
  F4 H45
noncomputable def Fj (H51 : Ai) : Option (Ai) :=
  Fi H51
noncomputable def Bk (H : Ai) (i1 : Nat) (o2 : Nat) (p1 : T_instr_Instr) (v6 : Int) (v8 : Int) (j22 : Bool) : Option (Ai) :=
  if j22 = true then (Ag (Jy H (Ptr.at i1 o2) p1 (IntKind.wrap .i32 v6) (IntKind.wrap .i32 v8)) fun H26 =>
  F0 H26)
  else (if (p1.Op_ == 11) = true then (Ag (Be H (Ptr.at i1 o2) p1.A_ (A6 .and .u32 v6 v8)) fun H30 =>
  F1 H30)
  else (if (p1.Op_ == 12) = true then (Ag (Be H (Ptr.at i1 o2) p1.A_ (A6 .or .u32 v6 v8)) fun H34 =>
  F2 H34)
  else (if (p1.Op_ == 13) = true then (Ag (Be H (Ptr.at i1 o2) p1.A_ (A6 .xor .u32 v6 v8)) fun H38 =>
  F3 H38)
  else (if (p1.Op_ == 14) = true then (Ag (Nh (decide ((IntKind.wrap .i32 v6) < (IntKind.wrap .i32 v8)))) fun r41 =>
  Ag (Be H (Ptr.at i1 o2) p1.A_ r41) fun H44 =>
  F4 H44)
  else (if (p1.Op_ == 15) = true then (Ag (Nh (decide ((IntKind.wrap .i32 v6) ≤ (IntKind.wrap .i32 v8)))) fun r47 =>
  Ag (Be H (Ptr.at i1 o2) p1.A_ r47) fun H50 =>
  Fi H50)
  else (if (p1.Op_ == 16) = true then (Ag (Nh ((IntKind.wrap .i32 v6) == (IntKind.wrap .i32 v8))) fun r53 =>
  Ag (Be H (Ptr.at i1 o2) p1.A_ r53) fun H56 =>
  Fj H56)
  else (Ag (Nh ((IntKind.wrap .i32 v6) != (IntKind.wrap .i32 v8))) fun r57 =>
  Ag (Be H (Ptr.at i1 o2) p1.A_ r57) fun H60 =>
  Fj H60)))))))
noncomputable def Bb (H : Ai) (p0 : Ptr) (p1 : T_instr_Instr) : Option (Ai) :=
  (p0).bnd fun i1 o2 =>
  Ag (Ba H i1 o2) fun x4 =>
  Ag (ga x4.R_ p1.B_) fun v6 =>
  Ag (ga x4.R_ p1.C_) fun v8 =>
  if (p1.Op_ == 6) = true then (Ag (Be H (Ptr.at i1 o2) p1.A_ (IntKind.wrap .u32 (v6 + v8))) fun H13 =>
  Fx H13)
  else (if (p1.Op_ == 7) = true then (Ag (Be H (Ptr.at i1 o2) p1.A_ (IntKind.wrap .u32 (v6 - v8))) fun H17 =>
  Fy H17)
  else (if (p1.Op_ == 8) = true then (Ag (Be H (Ptr.at i1 o2) p1.A_ (IntKind.wrap .u32 (v6 * v8))) fun H21 =>
  Fz H21)
  else (if (p1.Op_ == 9) = true then (Bk H i1 o2 p1 v6 v8 (p1.Op_ == 9))
  else (Bk H i1 o2 p1 v6 v8 (p1.Op_ == 10)))))
theorem Un (H : Ai) {p0 : Ptr} {p1 : T_instr_Instr} {Hr : Ai} (hF : Bb H p0 p1 = some Hr) : evS X 103 [.one .top (Ptr.av p0), .agg (Aq p1)] H = some (.tup [], Hr) := by
 let E1 : Ptr → EN := fun z0 => (0, vp z0)
 let E2 : EN := (3, vl 3 0)
 let B3 : EB := (3, (Aq p1))
 let E4 : EN := (9, vl 3 2)
 let E5 : EN := (10, vi p1.B_)
 refine yf Try.func103 false ⟨[(E1 p0), (1, .agg (Aq p1))], [], H⟩ ?_
 unfold Bb at hF
 refine ysg ⟨[(E1 p0), E2], [B3], H⟩ ?_ (h := (by generalize p0 = qp0; cases qp0 <;> kernel_rfl))
 refine Ah ?_
 obtain ⟨i1, o2, h3, hF⟩ := Br hF
 let E6 : EN := (13, vo i1 (o2 + Int.toNat p1.B_))
 let E8 : EN := (15, vo i1 o2)
 let E9 : EN := (18, vo i1 o2)
 let E10 : EN := (20, vo i1 (o2 + Int.toNat p1.C_))
 let E13 : EN := (100, vo i1 o2)
 let E15 : EN := (110, vo i1 o2)
 let E17 : EN := (120, vo i1 o2)
 let E19 : EN := (28, vo i1 o2)
 let L21 : List EN := [(0, vo i1 o2), E2]
 let L25 : List EN := [(8, vo i1 o2), E4, E5, (11, vo i1 o2)]
 let L26 : List EN := L21 ++ L25 ++ [(12, vo i1 o2)]
 obtain ⟨x4, V5, hF⟩ := Ab hF
 replace V5 := A8 V5
 obtain ⟨v6, h7, hF⟩ := Ab hF
 let E7 : EN := (14, vu v6)
 let E11 : EN := (6, .one .top (.int .i32 (IntKind.wrap .i32 v6)))
 let L27 : List EN := [E6, E7, E8, (16, vl 3 3), (17, vi p1.C_)]
 let L33 : List EN := L26 ++ L27 ++ [E9, (19, vo i1 o2)]
 obtain ⟨v8, h9, hF⟩ := Ab hF
 let E12 : EN := (7, .one .top (.int .i32 (IntKind.wrap .i32 v8)))
 let E14 : EN := (104, .one .top (.int .i32 (IntKind.wrap .i32 v8)))
 let E16 : EN := (114, .one .top (.int .i32 (IntKind.wrap .i32 v8)))
 let E18 : EN := (124, .one .top (.int .i32 (IntKind.wrap .i32 v8)))
 let E20 : EN := (32, .one .top (.int .i32 (IntKind.wrap .i32 v8)))
 let L22 : List EN := L21 ++ [E11, E12]
 let L23 : List EN := L21 ++ [(4, vu v6), (5, vu v8)]
 let L24 : List EN := L23 ++ [E11, E12, (27, vi p1.Op_)]
 let L28 : List EN := L22 ++ [E13, (101, vl 3 1), (102, vi p1.A_), (103, .one .top (.int .i32 (IntKind.wrap .i32 v6)))]
 let L29 : List EN := L22 ++ [E15, (111, vl 3 1), (112, vi p1.A_), (113, .one .top (.int .i32 (IntKind.wrap .i32 v6)))]
 let L30 : List EN := L22 ++ [E17, (121, vl 3 1), (122, vi p1.A_), (123, .one .top (.int .i32 (IntKind.wrap .i32 v6)))]
 let L31 : List EN := L22 ++ [E19, (29, vl 3 1), (30, vi p1.A_), (31, .one .top (.int .i32 (IntKind.wrap .i32 v6)))]
 let L32 : List EN := L22 ++ [(27, vi p1.Op_)]
 let L34 : List EN := L28 ++ [E14, (105, vb (decide ((IntKind.wrap .i32 v6) < (IntKind.wrap .i32 v8))))]
 let L35 : List EN := L29 ++ [E16, (115, vb (decide ((IntKind.wrap .i32 v6) ≤ (IntKind.wrap .i32 v8))))]
 let L36 : List EN := L30 ++ [E18, (125, vb ((IntKind.wrap .i32 v6) == (IntKind.wrap .i32 v8)))]
 let L37 : List EN := L31 ++ [E20, (33, vb ((IntKind.wrap .i32 v6) != (IntKind.wrap .i32 v8)))]
 let L38 : List EN := L22 ++ [(66, vo i1 o2), (67, .agg (Aq p1)), (68, .one .top (.int .i32 (IntKind.wrap .i32 v6))), (69, .one .top (.int .i32 (IntKind.wrap .i32 v8)))]
 let L39 : List EN := L23 ++ [(38, vo i1 o2), (39, vl 3 1), (40, vi p1.A_), (41, vu v6), (42, vu v8), (43, vu (IntKind.wrap .u32 (v6 + v8)))]
 let L40 : List EN := L23 ++ [(47, vo i1 o2), (48, vl 3 1), (49, vi p1.A_), (50, vu v6), (51, vu v8), (52, vu (IntKind.wrap .u32 (v6 - v8)))]
 let L41 : List EN := L23 ++ [(56, vo i1 o2), (57, vl 3 1), (58, vi p1.A_), (59, vu v6), (60, vu v8), (61, vu (IntKind.wrap .u32 (v6 * v8)))]
 let L42 : List EN := L23 ++ [(73, vo i1 o2), (74, vl 3 1), (75, vi p1.A_), (76, vu v6), (77, vu v8), (78, vu (A6 .and .u32 v6 v8))]
 let L43 : List EN := L23 ++ [(82, vo i1 o2), (83, vl 3 1), (84, vi p1.A_), (85, vu v6), (86, vu v8), (87, vu (A6 .or .u32 v6 v8))]
 let L44 : List EN := L23 ++ [(91, vo i1 o2), (92, vl 3 1), (93, vi p1.A_), (94, vu v6), (95, vu v8), (96, vu (A6 .xor .u32 v6 v8))]
 let L45 : List EN := L25 ++ [(12, vo i1 o2)] ++ L27 ++ [E9, (19, vo i1 o2), E10, (21, vu v8)]
 refine Bn (.take 0 (.take 1 (.take 2 (.take 3 (.take 4 (.take 5 (.take 6 (.take 7 (.take 8 (.take 9 (.take 10 (.take 11 (.take 12 (.take 13 (.take 14 (.take 15 .done)))))))))))))))) (by kernel_rfl) (⟨L23, [B3], H⟩ : St) ?_ ?_
 refine Ao ⟨[(E1 p0), E2, (8, vp p0)], [B3], H⟩ (by generalize p0 = qp0; cases qp0 <;> kernel_rfl) ?_
 refine Ao ⟨[(E1 p0), E2, (8, vp p0), E4], [B3], H⟩ (by generalize p0 = qp0; cases qp0 <;> kernel_rfl) ?_
 refine Ao ⟨[(E1 p0), E2, (8, vp p0), E4, E5], [B3], H⟩ (by generalize p0 = qp0; cases qp0 <;> kernel_rfl) ?_
 refine Fe (congrArg (fun q => (⟨[(0, vp q), E2, (8, vp q), E4, E5], [B3], H⟩ : St)) h3) ?_
 refine ydk 2 ⟨L26, [B3], H⟩ ?_
 refine Ao ⟨L26 ++ [E6], [B3], H⟩ (Kv (X := X) (⟨L26, [B3], H⟩ : St) 46 35 16 h7 i1 o2 (some 13) (by kernel_rfl) (by kernel_rfl) (by kernel_rfl) (by kernel_rfl)) ?_
 refine Ao ⟨L26 ++ [E6, E7], [B3], H⟩ (Kj (X := X) (⟨L26 ++ [E6], [B3], H⟩ : St) 35 16 h7 V5 0 (fun q => .int .u32 q) (some 14) (by kernel_rfl) (by kernel_rfl) (by kernel_rfl) (by kernel_rfl) (by kernel_rfl) (by kernel_rfl)) ?_
 refine ydk 5 ⟨L33, [B3], H⟩ ?_
 refine Ao ⟨L33 ++ [E10], [B3], H⟩ (Kv (X := X) (⟨L33, [B3], H⟩ : St) 46 35 16 h9 i1 o2 (some 20) (by kernel_rfl) (by kernel_rfl) (by kernel_rfl) (by kernel_rfl)) ?_
 refine Ao ⟨L33 ++ [E10, (21, vu v8)], [B3], H⟩ (Kj (X := X) (⟨L33 ++ [E10], [B3], H⟩ : St) 35 16 h9 V5 0 (fun q => .int .u32 q) (some 21) (by kernel_rfl) (by kernel_rfl) (by kernel_rfl) (by kernel_rfl) (by kernel_rfl) (by kernel_rfl)) ?_
 refine ydk 2 ⟨L23 ++ L45, [B3], H⟩ ?_
 exact yde
 refine ysg ⟨L23 ++ [E11, E12], [B3], H⟩ ?_
 refine ysg ⟨L24, [B3], H⟩ ?_
 refine Bs ?_
 refine ysg ⟨L24 ++ [(36, vb (p1.Op_ == 6))], [B3], H⟩ ?_
 refine Ar (α := (Ai)) (fun x => (⟨[], [], x⟩ : St)) (fun x => Fx x = some Hr) ?_ ?_
 rintro H10 hF
 replace hF : Fx H10 = some Hr := hF
 unfold Fx at hF
 obtain e0 := Al hF
 subst e0
 exact yi (vN)
 rcases Af hF with ⟨h11, hF⟩ | ⟨h11, hF⟩
 refine yT h11 ⟨L23, [B3], H⟩ ?_
 obtain ⟨H13, c12, hF⟩ := Ab hF
 refine Ak ⟨[], [], H13⟩ ?_ ?_
 refine yr 6 ⟨L39, [B3], H⟩ ?_
 refine Aj ⟨L39 ++ [(44, vN)], [B3], H13⟩ (yc (some 44) false false (⟨L39, [B3], H⟩ : St) (Bf H c12)) ?_
 exact ye
 exact ⟨H13, hF, (by kernel_rfl)⟩
 refine yF h11 ⟨L24, [B3], H⟩ ?_
 refine ysg ⟨L24 ++ [(45, vb (p1.Op_ == 7))], [B3], H⟩ ?_
 refine Ar (α := (Ai)) (fun x => (⟨[], [], x⟩ : St)) (fun x => Fy x = some Hr) ?_ ?_
 rintro H14 hF
 replace hF : Fy H14 = some Hr := hF
 unfold Fy at hF
 exact ⟨H14, hF, (by kernel_rfl)⟩
 rcases Af hF with ⟨h15, hF⟩ | ⟨h15, hF⟩
 refine yT h15 ⟨L23, [B3], H⟩ ?_
 obtain ⟨H17, c16, hF⟩ := Ab hF
 refine Ak ⟨[], [], H17⟩ ?_ ?_
 refine yr 6 ⟨L40, [B3], H⟩ ?_
 refine Aj ⟨L40 ++ [(53, vN)], [B3], H17⟩ (yc (some 53) false false (⟨L40, [B3], H⟩ : St) (Bf H c16)) ?_
 exact ye
 exact ⟨H17, hF, (by kernel_rfl)⟩
 refine yF h15 ⟨L24, [B3], H⟩ ?_
 refine ysg ⟨L24 ++ [(54, vb (p1.Op_ == 8))], [B3], H⟩ ?_
 refine Ar (α := (Ai)) (fun x => (⟨[], [], x⟩ : St)) (fun x => Fz x = some Hr) ?_ ?_
 rintro H18 hF
 replace hF : Fz H18 = some Hr := hF
 unfold Fz at hF
 exact ⟨H18, hF, (by kernel_rfl)⟩
 rcases Af hF with ⟨h19, hF⟩ | ⟨h19, hF⟩
 refine yT h19 ⟨L23, [B3], H⟩ ?_
 obtain ⟨H21, c20, hF⟩ := Ab hF
 refine Ak ⟨[], [], H21⟩ ?_ ?_
 refine yr 6 ⟨L41, [B3], H⟩ ?_
 refine Aj ⟨L41 ++ [(62, vN)], [B3], H21⟩ (yc (some 62) false false (⟨L41, [B3], H⟩ : St) (Bf H c20)) ?_
 exact ye
 exact ⟨H21, hF, (by kernel_rfl)⟩
 refine yF h19 ⟨L24, [B3], H⟩ ?_
 refine Ah ?_
 refine ysg ⟨L24 ++ [(63, vb (p1.Op_ == 9))], [B3], H⟩ ?_
 refine Ar (α := (Bool)) (fun x => (⟨L24 ++ [(63, vb x)], [B3], H⟩ : St)) (fun x => Bk H i1 o2 p1 v6 v8 x = some Hr) ?_ ?_
 rintro j22 hF
 replace hF : Bk H i1 o2 p1 v6 v8 j22 = some Hr := hF
 unfold Bk at hF
 refine Ar (α := (Ai)) (fun x => (⟨[], [], x⟩ : St)) (fun x => F0 x = some Hr) ?_ ?_
 rintro H23 hF
 replace hF : F0 H23 = some Hr := hF
 unfold F0 at hF
 exact ⟨H23, hF, (by kernel_rfl)⟩
 rcases Af hF with ⟨h24, hF⟩ | ⟨h24, hF⟩
 refine yT h24 ⟨L22, [B3], H⟩ ?_
 obtain ⟨H26, c25, hF⟩ := Ab hF
 refine Ak ⟨[], [], H26⟩ ?_ ?_
 refine yr 4 ⟨L38, [B3], H⟩ ?_
 refine Aj ⟨L38 ++ [(70, vN)], [B3], H26⟩ (yc (some 70) false false (⟨L38, [B3], H⟩ : St) (Um H c25)) ?_
 exact ye
 exact ⟨H26, hF, (by kernel_rfl)⟩
 refine yF h24 ⟨L24, [B3], H⟩ ?_
 refine ysg ⟨L24 ++ [(71, vb (p1.Op_ == 11))], [B3], H⟩ ?_
 refine Ar (α := (Ai)) (fun x => (⟨[], [], x⟩ : St)) (fun x => F1 x = some Hr) ?_ ?_
 rintro H27 hF
 replace hF : F1 H27 = some Hr := hF
 unfold F1 at hF
 exact ⟨H27, hF, (by kernel_rfl)⟩
 rcases Af hF with ⟨h28, hF⟩ | ⟨h28, hF⟩
 refine yT h28 ⟨L23, [B3], H⟩ ?_
 obtain ⟨H30, c29, hF⟩ := Ab hF
 refine Ak ⟨[], [], H30⟩ ?_ ?_
 refine yr 6 ⟨L42, [B3], H⟩ ?_
 refine Aj ⟨L42 ++ [(79, vN)], [B3], H30⟩ (yc (some 79) false false (⟨L42, [B3], H⟩ : St) (Bf H c29)) ?_
 exact ye
 exact ⟨H30, hF, (by kernel_rfl)⟩
 refine yF h28 ⟨L24, [B3], H⟩ ?_
 refine ysg ⟨L24 ++ [(80, vb (p1.Op_ == 12))], [B3], H⟩ ?_
 refine Ar (α := (Ai)) (fun x => (⟨[], [], x⟩ : St)) (fun x => F2 x = some Hr) ?_ ?_
 rintro H31 hF
 replace hF : F2 H31 = some Hr := hF
 unfold F2 at hF
 exact ⟨H31, hF, (by kernel_rfl)⟩
 rcases Af hF with ⟨h32, hF⟩ | ⟨h32, hF⟩
 refine yT h32 ⟨L23, [B3], H⟩ ?_
 obtain ⟨H34, c33, hF⟩ := Ab hF
 refine Ak ⟨[], [], H34⟩ ?_ ?_
 refine yr 6 ⟨L43, [B3], H⟩ ?_
 refine Aj ⟨L43 ++ [(88, vN)], [B3], H34⟩ (yc (some 88) false false (⟨L43, [B3], H⟩ : St) (Bf H c33)) ?_
 exact ye
 exact ⟨H34, hF, (by kernel_rfl)⟩
 refine yF h32 ⟨L24, [B3], H⟩ ?_
 refine ysg ⟨L24 ++ [(89, vb (p1.Op_ == 13))], [B3], H⟩ ?_
 refine Ar (α := (Ai)) (fun x => (⟨[], [], x⟩ : St)) (fun x => F3 x = some Hr) ?_ ?_
 rintro H35 hF
 replace hF : F3 H35 = some Hr := hF
 unfold F3 at hF
 exact ⟨H35, hF, (by kernel_rfl)⟩
 rcases Af hF with ⟨h36, hF⟩ | ⟨h36, hF⟩
 refine yT h36 ⟨L23, [B3], H⟩ ?_
 obtain ⟨H38, c37, hF⟩ := Ab hF
 refine Ak ⟨[], [], H38⟩ ?_ ?_
 refine yr 6 ⟨L44, [B3], H⟩ ?_
 refine Aj ⟨L44 ++ [(97, vN)], [B3], H38⟩ (yc (some 97) false false (⟨L44, [B3], H⟩ : St) (Bf H c37)) ?_
 exact ye
 exact ⟨H38, hF, (by kernel_rfl)⟩
 refine yF h36 ⟨L32, [B3], H⟩ ?_
 refine ysg ⟨L32 ++ [(98, vb (p1.Op_ == 14))], [B3], H⟩ ?_
 refine Ar (α := (Ai)) (fun x => (⟨[], [], x⟩ : St)) (fun x => F4 x = some Hr) ?_ ?_
 rintro H39 hF
 replace hF : F4 H39 = some Hr := hF
 unfold F4 at hF
 exact ⟨H39, hF, (by kernel_rfl)⟩
 rcases Af hF with ⟨h40, hF⟩ | ⟨h40, hF⟩
 refine yT h40 ⟨L22, [B3], H⟩ ?_
 obtain ⟨r41, c42, hF⟩ := Ab hF
 obtain ⟨H44, c43, hF⟩ := Ab hF
 refine Bn (.take 0 (.take 1 (.take 2 (.take 3 (.take 4 (.take 5 (.last 6 (.last 7 .done)))))))) (by kernel_rfl) (⟨[], [], H44⟩ : St) ?_ ?_
 refine ydk 6 ⟨L34, [B3], H⟩ ?_
 refine Bo ⟨L34 ++ [(106, vu r41)], [B3], H⟩ (yc (some 106) true false (⟨L34, [B3], H⟩ : St) (O9 H c42)) ?_
 refine Bo ⟨L34 ++ [(106, vu r41), (107, vN)], [B3], H44⟩ (yc (some 107) false false (⟨L34 ++ [(106, vu r41)], [B3], H⟩ : St) (Bf H c43)) ?_
 exact yde
 exact ⟨H44, hF, (by kernel_rfl)⟩
 refine yF h40 ⟨L32, [B3], H⟩ ?_
 refine ysg ⟨L32 ++ [(108, vb (p1.Op_ == 15))], [B3], H⟩ ?_
 refine Ar (α := (Ai)) (fun x => (⟨[], [], x⟩ : St)) (fun x => Fi x = some Hr) ?_ ?_
 rintro H45 hF
 replace hF : Fi H45 = some Hr := hF
 unfold Fi at hF
 exact ⟨H45, hF, (by kernel_rfl)⟩
 rcases Af hF with ⟨h46, hF⟩ | ⟨h46, hF⟩
 refine yT h46 ⟨L22, [B3], H⟩ ?_
 obtain ⟨r47, c48, hF⟩ := Ab hF
 obtain ⟨H50, c49, hF⟩ := Ab hF
 refine Bn (.take 0 (.take 1 (.take 2 (.take 3 (.take 4 (.take 5 (.last 6 (.last 7 .done)))))))) (by kernel_rfl) (⟨[], [], H50⟩ : St) ?_ ?_
 refine ydk 6 ⟨L35, [B3], H⟩ ?_
 refine Bo ⟨L35 ++ [(116, vu r47)], [B3], H⟩ (yc (some 116) true false (⟨L35, [B3], H⟩ : St) (O9 H c48)) ?_
 refine Bo ⟨L35 ++ [(116, vu r47), (117, vN)], [B3], H50⟩ (yc (some 117) false false (⟨L35 ++ [(116, vu r47)], [B3], H⟩ : St) (Bf H c49)) ?_
 exact yde
 exact ⟨H50, hF, (by kernel_rfl)⟩
 refine yF h46 ⟨L32, [B3], H⟩ ?_
 refine ysg ⟨L22 ++ [(118, vb (p1.Op_ == 16))], [B3], H⟩ ?_
 refine Ar (α := (Ai)) (fun x => (⟨[], [], x⟩ : St)) (fun x => Fj x = some Hr) ?_ ?_
 rintro H51 hF
 replace hF : Fj H51 = some Hr := hF
 unfold Fj at hF
 exact ⟨H51, hF, (by kernel_rfl)⟩
 rcases Af hF with ⟨h52, hF⟩ | ⟨h52, hF⟩
 refine yT h52 ⟨L22, [B3], H⟩ ?_
 obtain ⟨r53, c54, hF⟩ := Ab hF
 obtain ⟨H56, c55, hF⟩ := Ab hF
 refine Bn (.take 0 (.take 1 (.take 2 (.take 3 (.take 4 (.take 5 (.last 6 (.last 7 .done)))))))) (by kernel_rfl) (⟨[], [], H56⟩ : St) ?_ ?_
 refine ydk 6 ⟨L36, [B3], H⟩ ?_
 refine Bo ⟨L36 ++ [(126, vu r53)], [B3], H⟩ (yc (some 126) true false (⟨L36, [B3], H⟩ : St) (O9 H c54)) ?_
 refine Bo ⟨L36 ++ [(126, vu r53), (127, vN)], [B3], H56⟩ (yc (some 127) false false (⟨L36 ++ [(126, vu r53)], [B3], H⟩ : St) (Bf H c55)) ?_
 exact yde
 exact ⟨H56, hF, (by kernel_rfl)⟩
 refine yF h52 ⟨L22, [B3], H⟩ ?_
 obtain ⟨r57, c58, hF⟩ := Ab hF
 obtain ⟨H60, c59, hF⟩ := Ab hF
 refine Bn (.take 0 (.take 1 (.take 2 (.take 3 (.take 4 (.take 5 (.last 6 (.last 7 .done)))))))) (by kernel_rfl) (⟨[], [], H60⟩ : St) ?_ ?_
 refine ydk 6 ⟨L37, [B3], H⟩ ?_
 refine Bo ⟨L37 ++ [(34, vu r57)], [B3], H⟩ (yc (some 34) true false (⟨L37, [B3], H⟩ : St) (O9 H c58)) ?_
 refine Bo ⟨L37 ++ [(34, vu r57), (35, vN)], [B3], H60⟩ (yc (some 35) false false (⟨L37 ++ [(34, vu r57)], [B3], H⟩ : St) (Bf H c59)) ?_
 exact yde
 exact ⟨H60, hF, (by kernel_rfl)⟩
 rcases Af hF with ⟨h61, hF⟩ | ⟨h61, hF⟩
 refine yT h61 ⟨L24 ++ [(63, vb (p1.Op_ == 9))], [B3], H⟩ ?_
 refine Am ?_
 exact ⟨(p1.Op_ == 9), hF, (by kernel_rfl)⟩
 refine yF h61 ⟨L24, [B3], H⟩ ?_
 refine yg ⟨L24 ++ [(63, vb (p1.Op_ == 10))], [B3], H⟩ ?_
 exact ⟨(p1.Op_ == 10), hF, (by kernel_rfl)⟩
noncomputable def Ef (H : Ai) (p0 : Ptr) (p1 : Int) : Option (Int × Int) :=
  Ch (Dv H p0 p1) fun r1 r2 =>
  if (r2 != 0) = true then (some (0, r2))
  else ((p0).bnd fun i5 o6 =>
  Ag (Cr H i5 o6) fun x8 =>
  Ag (gi x8.words_ r1) fun x10 =>
  some (x10, 0))
theorem Ou (H : Ai) {p0 : Ptr} {p1 : Int} {ra : Int} {rb : Int} (hF : Ef H p0 p1 = some (ra, rb)) : evS X 108 [.one .top (Ptr.av p0), .one .top (.int .u32 p1)] H = some (.tup [.one .top (.int .u32 ra), .one .top (.int .i64 rb)], H) := by
 let E1 : Ptr → EN := fun z0 => (0, vp z0)
 let L10 : Ptr → List EN := fun z0 => [(E1 z0), (1, vu p1), (9, vp z0), (10, vu p1)]
 let S11 : Ptr → St := fun z0 => ⟨[(E1 z0), (1, vu p1)], [], H⟩
 refine yf Try.func108 true (S11 p0) ?_
 unfold Ef at hF
 refine ysg (S11 p0) ?_ (h := (by generalize p0 = qp0; cases qp0 <;> kernel_rfl))
 refine Ah ?_
 obtain ⟨r1, r2, c3, hF⟩ := Bg hF
 let E2 : EN := (6, vi r1)
 let E3 : EN := (11, .tup [vi r1, vi r2])
 let E7 : EN := (21, vi r1)
 refine Ak ⟨[(E1 p0), E2, (7, vi r2)], [], H⟩ ?_ ?_
 refine yr 2 ⟨(L10 p0), [], H⟩ ?_ (h := (by generalize p0 = qp0; cases qp0 <;> kernel_rfl))
 refine Aj ⟨(L10 p0) ++ [E3], [], H⟩ (yc (some 11) true false (⟨(L10 p0), [], H⟩ : St) (Kk H c3) (hr := (by generalize p0 = qp0; cases qp0 <;> kernel_rfl)) (hs := (by generalize p0 = qp0; cases qp0 <;> kernel_rfl))) ?_
 refine yr 5 ⟨[(E1 p0), (1, vu p1), E2, (7, vi r2), (8, .tup [vi r1, vi r2]), (9, vp p0), (10, vu p1), E3, (12, vi r1), (13, vi r2)], [], H⟩ ?_ (h := (by generalize p0 = qp0; cases qp0 <;> kernel_rfl))
 exact ye
 refine Ah ?_
 refine ysg ⟨[(E1 p0), E2, (7, vi r2), (15, vb (r2 != 0))], [], H⟩ ?_ (h := (by generalize p0 = qp0; cases qp0 <;> kernel_rfl))
 rcases Af hF with ⟨h4, hF⟩ | ⟨h4, hF⟩
 refine yT h4 ⟨[(7, vi r2)], [], H⟩ ?_
 refine ysg ⟨[(4, vu 0), (5, vi r2)], [], H⟩ ?_
 refine As ?_
 obtain ⟨e0, e1⟩ := Ap hF
 subst e0
 subst e1
 exact yp (.tup [vu 0, vi r2])
 refine yF h4 ⟨[(E1 p0), E2], [], H⟩ ?_
 refine Am ?_
 refine Ah ?_
 obtain ⟨i5, o6, h7, hF⟩ := Br hF
 let E4 : EN := (17, vo i5 o6)
 let E5 : EN := (18, vo i5 o6)
 let L9 : List EN := [(0, vo i5 o6), E2, E4, E5, (19, vo i5 (o6 + 5))]
 obtain ⟨x8, V9, hF⟩ := Ab hF
 replace V9 := A8 V9
 let E6 : EN := (20, .one .bh (.sl 1 (List.map (eI .u32) x8.words_)))
 obtain ⟨x10, h11, hF⟩ := Ab hF
 let E8 : EN := (22, .one .top (.rd .bh .bh [.int .u32 x10] 0))
 refine Ak ⟨[(4, vu x10), (5, vi 0)], [], H⟩ ?_ ?_
 refine yr 1 ⟨[(E1 p0), E2, (17, vp p0)], [], H⟩ ?_ (h := (by generalize p0 = qp0; cases qp0 <;> kernel_rfl))
 refine Bc (congrArg (fun q => (⟨[(0, vp q), E2, (17, vp q)], [], H⟩ : St)) h7) ?_
 refine yr 1 ⟨[(0, vo i5 o6), E2, E4, E5], [], H⟩ ?_
 refine yr 1 ⟨L9, [], H⟩ ?_
 refine Aj ⟨L9 ++ [E6], [], H⟩ (yd (X := X) (⟨L9, [], H⟩ : St) 42 V9 5 1 false (.one .bh (.sl 1 (List.map (eI .u32) x8.words_))) (some 20)) ?_
 refine yr 1 ⟨L9 ++ [E6, E7], [], H⟩ ?_
 refine Aj ⟨L9 ++ [E6, E7, E8], [], H⟩ (Qw (X := X) (⟨L9 ++ [E6, E7], [], H⟩ : St) 42 35 1 h11 (eI .u32) .bh (some 22) (by kernel_rfl) (by kernel_rfl) (by kernel_rfl) (by kernel_rfl)) ?_
 refine yr 3 ⟨[(0, vo i5 o6), (4, vu x10), (5, vi 0), E2, E4, E5, (19, vo i5 (o6 + 5)), E6, E7, E8, (23, vu x10)], [], H⟩ ?_
 exact ye
 refine As ?_
 obtain ⟨e0, e1⟩ := Ap hF
 subst e0
 subst e1
 exact yp (.tup [vu x10, vi 0])
noncomputable def Dw (H : Ai) (p0 : Ptr) (p1 : Int) (p2 : Int) : Option (Ai × Int) :=
  Ch (Dv H p0 p1) fun r1 r2 =>
  if (r2 != 0) = true then (some (H, r2))
  else ((p0).bnd fun i5 o6 =>
  Ag (Cr H i5 o6) fun x8 =>
  if (decide (p1 < x8.layout_.Tables_)) = true then (some (H, 32))
  else (Ag (gi x8.words_ r1) fun x11 =>
  Ag (si x8.words_ r1 p2) fun v13 =>
  bnd (Dj H i5 o6 (T_memory_Mem.mk x8.layout_ v13)) fun H15 =>
  some (H15, 0)))
theorem Sm (H : Ai) {p0 : Ptr} {p1 : Int} {p2 : Int} {ra : Int} {Hr : Ai} (hF : Dw H p0 p1 p2 = some (Hr, ra)) : evS X 125 [.one .top (Ptr.av p0), .one .top (.int .u32 p1), .one .top (.int .u32 p2)] H = some (.one .top (.int .i64 ra), Hr) := by
 let E2 : Ptr → EN := fun z0 => (0, vp z0)
 let E3 : EN := (2, vu p2)
 let E7 : EN := (20, vu p1)
 let L16 : Ptr → List EN := fun z0 => [(E2 z0), (1, vu p1), E3, (10, vp z0), (11, vu p1)]
 let S18 : Ptr → St := fun z0 => ⟨[(E2 z0), (1, vu p1), E3], [], H⟩
 refine yf Try.func125 false (S18 p0) ?_
 unfold Dw at hF
 refine ysg (S18 p0) ?_ (h := (by generalize p0 = qp0; cases qp0 <;> kernel_rfl))
 refine Ah ?_
 obtain ⟨r1, r2, c3, hF⟩ := Bg hF
 let E4 : EN := (12, .tup [vi r1, vi r2])
 let L12 : List EN := [(1, vu p1), E3, (7, vi r1)]
 refine Ak ⟨[(E2 p0)] ++ L12 ++ [(8, vi r2)], [], H⟩ ?_ ?_
 refine yr 2 ⟨(L16 p0), [], H⟩ ?_ (h := (by generalize p0 = qp0; cases qp0 <;> kernel_rfl))
 refine Aj ⟨(L16 p0) ++ [E4], [], H⟩ (yc (some 12) true false (⟨(L16 p0), [], H⟩ : St) (Kk H c3) (hr := (by generalize p0 = qp0; cases qp0 <;> kernel_rfl)) (hs := (by generalize p0 = qp0; cases qp0 <;> kernel_rfl))) ?_
 refine yr 5 ⟨[(E2 p0)] ++ L12 ++ [(8, vi r2), (9, .tup [vi r1, vi r2]), (10, vp p0), (11, vu p1), E4, (13, vi r1), (14, vi r2)], [], H⟩ ?_ (h := (by generalize p0 = qp0; cases qp0 <;> kernel_rfl))
 exact ye
 refine Ah ?_
 refine Bs ?_
 refine ysg ⟨[(E2 p0)] ++ L12 ++ [(8, vi r2), (15, vb (r2 != 0))], [], H⟩ ?_ (h := (by generalize p0 = qp0; cases qp0 <;> kernel_rfl))
 rcases Af hF with ⟨h4, hF⟩ | ⟨h4, hF⟩
 refine yT h4 ⟨[(8, vi r2)], [], H⟩ ?_
 refine ysg ⟨[(6, vi r2)], [], H⟩ ?_
 refine As ?_
 obtain ⟨e0, e1⟩ := Ap hF
 subst e0
 subst e1
 exact yi (vi r2)
 refine yF h4 ⟨[(E2 p0)] ++ L12, [], H⟩ ?_
 refine Ah ?_
 obtain ⟨i5, o6, h7, hF⟩ := Br hF
 let E5 : EN := (0, vo i5 o6)
 let E8 : EN := (21, vo i5 o6)
 let E9 : EN := (22, vo i5 o6)
 let L13 : List EN := [E5, E3, (7, vi r1), (27, vo i5 o6), (28, vo i5 o6), (29, vo i5 (o6 + 5))]
 let L17 : List EN := [E5] ++ L12 ++ [E7, E8, E9, (23, vo i5 o6), (24, vo i5 (o6 + 1))]
 obtain ⟨x8, V9, hF⟩ := Ab hF
 replace V9 := A8 V9
 let E6 : EN := (19, vb (decide (p1 < x8.layout_.Tables_)))
 let E10 : EN := (25, vu x8.layout_.Tables_)
 let E11 : EN := (30, .one .top (.at_ (.obj i5 (o6 + 5)) 0 ((List.map (eI .u32) x8.words_).length)))
 let L14 : List EN := L13 ++ [E11, (31, vi r1), (32, vu p2)]
 let L15 : List EN := L14 ++ [(33, .one .top (.el (.obj i5 (o6 + 5)) (Int.toNat r1) 0))]
 refine Ak ⟨[E5, E3, (7, vi r1), E6], [], H⟩ ?_ ?_
 refine yr 2 ⟨[(E2 p0)] ++ L12 ++ [E7, (21, vp p0)], [], H⟩ ?_ (h := (by generalize p0 = qp0; cases qp0 <;> kernel_rfl))
 refine Bc (congrArg (fun q => (⟨[(0, vp q)] ++ L12 ++ [E7, (21, vp q)], [], H⟩ : St)) h7) ?_
 refine yr 1 ⟨[E5] ++ L12 ++ [E7, E8, E9], [], H⟩ ?_
 refine yr 2 ⟨L17, [], H⟩ ?_
 refine Aj ⟨L17 ++ [E10], [], H⟩ (yd (X := X) (⟨L17, [], H⟩ : St) 35 V9 1 1 false (vu x8.layout_.Tables_) (some 25)) ?_
 refine yr 2 ⟨[E5] ++ L12 ++ [E6, E7, E8, E9, (23, vo i5 o6), (24, vo i5 (o6 + 1)), E10, (26, vb (decide (p1 < x8.layout_.Tables_)))], [], H⟩ ?_
 exact ye
 rcases Af hF with ⟨h10, hF⟩ | ⟨h10, hF⟩
 refine yT h10 ⟨[], [], H⟩ ?_
 refine ysg ⟨[(6, vi 32)], [], H⟩ ?_
 refine As ?_
 obtain ⟨e0, e1⟩ := Ap hF
 subst e0
 subst e1
 exact yi (vi 32)
 refine yF h10 ⟨[E5, E3, (7, vi r1)], [], H⟩ ?_
 refine Am ?_
 refine Ah ?_
 obtain ⟨x11, h12, hF⟩ := Ab hF
 obtain ⟨v13, h14, hF⟩ := Ab hF
 let W1 : Ai := Dp H i5 o6 [(.top, .int .u32 x8.layout_.Code_), (.top, .int .u32 x8.layout_.Tables_), (.top, .int .u32 x8.layout_.Data_), (.top, .int .u32 x8.layout_.Heap_), (.top, .int .u32 x8.layout_.Stack_), ((.own 1), .sl 1 (List.map (eI .u32) v13))]
 obtain ⟨H15, h16, hF⟩ := Ci hF
 have V17 : Cq H15 i5 o6 6 = some (Dz (T_memory_Mem.mk x8.layout_ v13)) := by rw [← h16]; exact Bt V9 rfl
 refine Ak ⟨[], [], H15⟩ ?_ ?_
 refine yr 3 ⟨L13, [], H⟩ ?_
 refine Aj ⟨L13 ++ [E11], [], H⟩ (fR (X := X) (⟨L13, [], H⟩ : St) 42 V9 5 0 1 (List.map (eI .u32) x8.words_) (some 30) (by kernel_rfl) (by kernel_rfl) (by kernel_rfl) (by kernel_rfl) (by kernel_rfl) (by kernel_rfl)) ?_
 refine yr 2 ⟨L14, [], H⟩ ?_
 refine Aj ⟨L15, [], H⟩ (fS (X := X) (⟨L14, [], H⟩ : St) 42 35 1 h12 (eI .u32) (.obj i5 (o6 + 5)) 0 (List.map (eI .u32) x8.words_).length 0 (some 33) (by kernel_rfl) (by kernel_rfl) (by kernel_rfl) (Yw (k := 5) (c := ((.own 1), .sl 1 (List.map (eI .u32) x8.words_))) V9 (by kernel_rfl) (by kernel_rfl)) rfl (List.length_map _) (by kernel_rfl)) ?_
 refine Aj ⟨L15, [], W1⟩ (fW (X := X) (⟨L15, [], H⟩ : St) (⟨L15, [], W1⟩ : St) ⟨false, []⟩ 35 (.obj i5 (o6 + 5)) (Int.toNat r1) 0 1 0 (List.map (eI .u32) x8.words_) [.int .u32 x11] ((eI .u32) p2) (List.map (eI .u32) v13) 1 (vu p2) (by kernel_rfl) (by kernel_rfl) (by kernel_rfl) (by kernel_rfl) (by kernel_rfl) (Yw (k := 5) (c := ((.own 1), .sl 1 (List.map (eI .u32) x8.words_))) V9 (by kernel_rfl) (by kernel_rfl)) (mC h12) (by kernel_rfl) (by kernel_rfl) (fV h14) (mD (k := 5) V9 (by kernel_rfl) (Ca V9 (Nat.le_of_ble_eq_true rfl))) (by kernel_rfl)) ?_
 refine Bc (congrArg (fun q => (⟨L15, [], q⟩ : St)) h16) ?_
 exact ye
 refine ysg ⟨[(6, vi 0)], [], H15⟩ ?_
 refine As ?_
 obtain ⟨e0, e1⟩ := Ap hF
 subst e0
 subst e1
 exact yi (vi 0)
noncomputable def F5 (H : Ai) (p0 : Ptr) (p1 : Int) : Option (Ai) :=
  (p0).bnd fun i1 o2 =>
  Ag (Ba H i1 o2) fun x4 =>
  bnd (Bj H i1 o2 (T_cpu_Cpu.mk x4.R_ (IntKind.wrap .u32 (x4.PC_ + (IntKind.wrap .u32 (4 + (IntKind.wrap .u32 (IntKind.wrap .i64 (4 * p1))))))) x4.EPC_ x4.Cause_ x4.State_ x4.Why_ x4.Steps_ x4.Taken_ x4.Out_ x4.setup_ x4.input_)) fun H6 =>
  some H6
theorem N0 (H : Ai) {p0 : Ptr} {p1 : Int} {Hr : Ai} (hF : F5 H p0 p1 = some Hr) : evS X 126 [.one .top (Ptr.av p0), .one .top (.int .i64 p1)] H = some (.tup [], Hr) := by
 let E2 : EN := (1, vi p1)
 refine yf Try.func126 false ⟨[(0, vp p0), E2], [], H⟩ ?_
 unfold F5 at hF
 obtain ⟨i1, o2, h3, hF⟩ := Br hF
 let L3 : List EN := [(0, vo i1 o2), E2, (4, vo i1 o2), (5, vo i1 o2), (6, vo i1 (o2 + 16))]
 obtain ⟨x4, V5, hF⟩ := Ab hF
 replace V5 := A8 V5
 let W1 : Ai := Dp H i1 o2 (arM .u32 16 x4.R_ ++ [(.top, .int .u32 (IntKind.wrap .u32 (x4.PC_ + (IntKind.wrap .u32 (4 + (IntKind.wrap .u32 (IntKind.wrap .i64 (4 * p1)))))))), (.top, .int .u32 x4.EPC_), (.top, .int .u32 x4.Cause_), (.top, .int .i64 x4.State_), (.top, .int .i64 x4.Why_), (.top, .int .i64 x4.Steps_), (.top, .int .i64 x4.Taken_), ((.own 1), .sl 2 (List.map Ae x4.Out_)), (.top, .int .u32 x4.setup_.Entry_), (.top, .int .u32 x4.setup_.Vector_), (.top, .int .u32 x4.setup_.Guard_), (.top, .int .u32 x4.setup_.Limit_), ((.own 1), .sl 1 (List.map (eI .i32) x4.input_))])
 let L4 : List EN := L3 ++ [(7, vu x4.PC_), (8, vi p1), (9, vi (IntKind.wrap .i64 (4 * p1))), (10, vu (IntKind.wrap .u32 (IntKind.wrap .i64 (4 * p1)))), (11, vu (IntKind.wrap .u32 (4 + (IntKind.wrap .u32 (IntKind.wrap .i64 (4 * p1)))))), (12, vu (IntKind.wrap .u32 (x4.PC_ + (IntKind.wrap .u32 (4 + (IntKind.wrap .u32 (IntKind.wrap .i64 (4 * p1)))))))), (13, vo i1 o2), (14, vo i1 (o2 + 16))]
 obtain ⟨H6, h7, hF⟩ := Ci hF
 have V8 : Cq H6 i1 o2 29 = some (Bx (T_cpu_Cpu.mk x4.R_ (IntKind.wrap .u32 (x4.PC_ + (IntKind.wrap .u32 (4 + (IntKind.wrap .u32 (IntKind.wrap .i64 (4 * p1))))))) x4.EPC_ x4.Cause_ x4.State_ x4.Why_ x4.Steps_ x4.Taken_ x4.Out_ x4.setup_ x4.input_)) := by rw [← h7]; exact Bt V5 rfl
 refine Ak ⟨[], [], H6⟩ ?_ ?_
 refine yr 1 ⟨[(0, vp p0), E2, (4, vp p0)], [], H⟩ ?_ (h := (by generalize p0 = qp0; cases qp0 <;> kernel_rfl))
 refine Bc (congrArg (fun q => (⟨[(0, vp q), E2, (4, vp q)], [], H⟩ : St)) h3) ?_
 refine yr 1 ⟨[(0, vo i1 o2), E2, (4, vo i1 o2), (5, vo i1 o2)], [], H⟩ ?_
 refine yr 1 ⟨L3, [], H⟩ ?_
 refine Aj ⟨L3 ++ [(7, vu x4.PC_)], [], H⟩ (yd (X := X) (⟨L3, [], H⟩ : St) 35 V5 16 1 false (vu x4.PC_) (some 7)) ?_
 refine yr 7 ⟨L4, [], H⟩ ?_
 refine Aj ⟨L4, [], W1⟩ (Gp (X := X) (lc := []) (h2 := W1) (⟨L4, [], H⟩ : St) 35 V5 16 1 (vu (IntKind.wrap .u32 (x4.PC_ + (IntKind.wrap .u32 (4 + (IntKind.wrap .u32 (IntKind.wrap .i64 (4 * p1)))))))) (by kernel_rfl) (by kernel_rfl) (by kernel_rfl) (by kernel_rfl) (by kernel_rfl) (by kernel_rfl) (Ca V5 (Nat.le_of_ble_eq_true rfl)) (by kernel_rfl)) ?_
 refine Bc (congrArg (fun q => (⟨L4, [], q⟩ : St)) h7) ?_
 exact ye
 obtain e0 := Al hF
 subst e0
 exact yi (vN)
end Go.Proofs.Abs
