import Derived.Test.YtjheniapmdcelaaCpuOnesF0
set_option linter.unusedVariables false
set_option linter.unusedSimpArgs false
set_option linter.unusedSectionVars false
namespace Go.Proofs.Abs
open Go Go.Proofs
set_option linter.unusedVariables false
set_option maxRecDepth 100000
set_option maxHeartbeats 0
noncomputable def Hg (H8 : Ah) : Option (Ah) :=
  some H8
noncomputable def Hh (H12 : Ah) : Option (Ah) :=
  Hg H12
noncomputable def Hi (H16 : Ah) : Option (Ah) :=
  Hh H16
noncomputable def Hj (H26 : Ah) : Option (Ah) :=
  Hi H26
noncomputable def Hk (H42 : Ah) : Option (Ah) :=
  Hj H42
noncomputable def Hl (H46 : Ah) : Option (Ah) :=
  Hk H46
noncomputable def Hn (H53 : Ah) : Option (Ah) :=
  Hk H53
noncomputable def C5 (x4 : T_cpu_Cpu) (p2 : T_instr_Instr) (H : Ah) (i1 : Nat) (o2 : Nat) (j41 : Bool) : Option (Ah) :=
  if j41 = true then (Af (ga x4.R_ p2.A_) fun v44 =>
  if ((v44 == 0) == (p2.Op_ == 20)) = true then (Af (Gm H (Ptr.at i1 o2) p2.Imm_) fun H49 =>
  Hl H49)
  else (bnd (Bl H i1 o2 (T_cpu_Cpu.mk x4.R_ (IntKind.wrap .u32 (x4.PC_ + 4)) x4.EPC_ x4.Cause_ x4.State_ x4.Why_ x4.Steps_ x4.Taken_ x4.Out_ x4.setup_ x4.input_)) fun H50 =>
  Hl H50))
  else (if (p2.Op_ == 23) = true then (bnd (Bl H i1 o2 (T_cpu_Cpu.mk (Ij [(x4.R_.g 0), (x4.R_.g 1), (x4.R_.g 2), (x4.R_.g 3), (x4.R_.g 4), (x4.R_.g 5), (x4.R_.g 6), (x4.R_.g 7), (x4.R_.g 8), (x4.R_.g 9), (x4.R_.g 10), (x4.R_.g 11), (x4.R_.g 12), (x4.R_.g 13), (IntKind.wrap .u32 (x4.PC_ + 4)), (x4.R_.g 15)] : Arr 16 Int) x4.PC_ x4.EPC_ x4.Cause_ x4.State_ x4.Why_ x4.Steps_ x4.Taken_ x4.Out_ x4.setup_ x4.input_)) fun H55 =>
  Af (Gm H55 (Ptr.at i1 o2) p2.Imm_) fun H59 =>
  Hn H59)
  else (Af (Gm H (Ptr.at i1 o2) p2.Imm_) fun H61 =>
  Hn H61))
noncomputable def Bj (H : Ah) (p0 : Ptr) (p1 : Ptr) (p2 : T_instr_Instr) : Option (Ah) :=
  (p0).bnd fun i1 o2 =>
  Af (Bf H i1 o2) fun x4 =>
  Af (ga x4.R_ p2.B_) fun v6 =>
  if (p2.Op_ == 2) = true then (Af (Bh H (Ptr.at i1 o2) p2.A_ (IntKind.wrap .u32 p2.Imm_)) fun H11 =>
  Hg H11)
  else (if (p2.Op_ == 5) = true then (Af (Bh H (Ptr.at i1 o2) p2.A_ (IntKind.wrap .u32 (v6 + (IntKind.wrap .u32 p2.Imm_)))) fun H15 =>
  Hh H15)
  else (if (p2.Op_ == 18) = true then (Cc (Ej H p1 (IntKind.wrap .u32 (v6 + (IntKind.wrap .u32 p2.Imm_)))) fun r18 r19 =>
  if (r19 != 0) = true then (Af (Bq H (Ptr.at i1 o2) r19) fun H23 =>
  some H23)
  else (Af (Bh H (Ptr.at i1 o2) p2.A_ r18) fun H25 =>
  Hi H25))
  else (if (p2.Op_ == 19) = true then (Af (ga x4.R_ p2.A_) fun v28 =>
  Cc (D1 H p1 (IntKind.wrap .u32 (v6 + (IntKind.wrap .u32 p2.Imm_))) v28) fun H32 r30 =>
  if (r30 != 0) = true then (Af (Bq H32 (Ptr.at i1 o2) r30) fun H35 =>
  some H35)
  else (Af (Bf H32 i1 o2) fun x36 =>
  bnd (Bl H32 i1 o2 (T_cpu_Cpu.mk x36.R_ (IntKind.wrap .u32 (x36.PC_ + 4)) x36.EPC_ x36.Cause_ x36.State_ x36.Why_ x36.Steps_ x36.Taken_ x36.Out_ x36.setup_ x36.input_)) fun H38 =>
  Hj H38))
  else (if (p2.Op_ == 20) = true then (C5 x4 p2 H i1 o2 (p2.Op_ == 20))
  else (C5 x4 p2 H i1 o2 (p2.Op_ == 21))))))
theorem U9 (H : Ah) {p0 : Ptr} {p1 : Ptr} {p2 : T_instr_Instr} {Hr : Ah} (hF : Bj H p0 p1 p2 = some Hr) : evS X 104 [.one .top (Ptr.av p0), .one .top (Ptr.av p1), .agg (Ap p2)] H = some (.tup [], Hr) := by
 let E4 : Ptr → EN := fun z0 => (0, vp z0)
 let B5 : EB := (5, (Ap p2))
 let E6 : EN := (11, vl 5 2)
 let E7 : EN := (12, vi p2.B_)
 let E10 : EN := (18, vi p2.Imm_)
 let E11 : EN := (19, vu (IntKind.wrap .u32 p2.Imm_))
 let E16 : Ptr → EN := fun z0 => (46, vp z0)
 let E20 : Ptr → EN := fun z0 => (63, vp z0)
 let E23 : EN := (67, vi p2.A_)
 let E28 : EN := (90, vi p2.A_)
 let E30 : EN := (96, vl 5 0)
 let E31 : EN := (97, vi p2.Op_)
 let L37 : Ptr → List EN := fun z0 => [(1, vp z0), (5, vl 5 0)]
 refine yf Try.func104 false ⟨[(E4 p0), (1, vp p1), (2, .agg (Ap p2))], [], H⟩ ?_
 unfold Bj at hF
 refine ysg ⟨[(E4 p0)] ++ (L37 p1), [B5], H⟩ ?_ (h := (by generalize p0 = qp0; generalize p1 = qp1; cases qp0 <;> cases qp1 <;> kernel_rfl))
 refine Ag ?_
 obtain ⟨i1, o2, h3, hF⟩ := Bu hF
 let E8 : EN := (0, vo i1 o2)
 let E9 : EN := (15, vo i1 (o2 + Int.toNat p2.B_))
 let E22 : EN := (65, vo i1 o2)
 let E24 : EN := (68, vo i1 o2)
 let E25 : EN := (70, vo i1 (o2 + Int.toNat p2.A_))
 let E29 : EN := (93, vo i1 (o2 + Int.toNat p2.A_))
 let E32 : EN := (113, vo i1 o2)
 let E33 : EN := (114, vo i1 o2)
 let L36 : List EN := [E8, (5, vl 5 0)]
 let L39 : List EN := L36 ++ [(88, vo i1 o2), (89, vl 5 1)]
 let L40 : List EN := [(10, vo i1 o2), E6, E7, (13, vo i1 o2)]
 let L42 : List EN := L36 ++ [E32, E33, (115, vo i1 o2), (116, vo i1 (o2 + 16))]
 let L43 : List EN := L39 ++ [E28, (91, vo i1 o2), (92, vo i1 o2)]
 let L44 : Ptr → List EN := fun z0 => [E8] ++ (L37 z0) ++ L40 ++ [(14, vo i1 o2)]
 let L45 : List EN := [(119, vo i1 o2), (120, vo i1 o2)]
 let L47 : List EN := L36 ++ [(22, vi p2.Op_)]
 let L49 : List EN := [E8, (78, vo i1 o2), (79, vo i1 o2), (80, vo i1 (o2 + 16))]
 let L50 : List EN := [E8, (104, vo i1 o2), (105, vo i1 o2), (106, vo i1 (o2 + 16))]
 let L58 : List EN := L36 ++ [(29, vo i1 o2), (30, vl 5 1), (31, vi p2.A_), (32, vl 5 4), (33, vi p2.Imm_), (34, vu (IntKind.wrap .u32 p2.Imm_))]
 let L59 : List EN := L36 ++ [(100, vo i1 o2), (101, vl 5 4), (102, vi p2.Imm_)]
 let L60 : List EN := L36 ++ [(122, vo i1 o2), (123, vl 5 4), (124, vi p2.Imm_)]
 let L61 : List EN := L36 ++ [(23, vo i1 o2), (24, vl 5 4), (25, vi p2.Imm_)]
 obtain ⟨x4, V5, hF⟩ := Ab hF
 replace V5 := Bb V5
 let W1 : Ah := Dt H i1 o2 (arM .u32 14 x4.R_ ++ [(.top, .int .u32 (IntKind.wrap .u32 (x4.PC_ + 4))), (.top, .int .u32 (x4.R_.g 15)), (.top, .int .u32 x4.PC_), (.top, .int .u32 x4.EPC_), (.top, .int .u32 x4.Cause_), (.top, .int .i64 x4.State_), (.top, .int .i64 x4.Why_), (.top, .int .i64 x4.Steps_), (.top, .int .i64 x4.Taken_), ((.own 1), .sl 2 (List.map Ad x4.Out_)), (.top, .int .u32 x4.setup_.Entry_), (.top, .int .u32 x4.setup_.Vector_), (.top, .int .u32 x4.setup_.Guard_), (.top, .int .u32 x4.setup_.Limit_), ((.own 1), .sl 1 (List.map (eI .i32) x4.input_))])
 let W3 : Ah := Dt H i1 o2 (arM .u32 16 x4.R_ ++ [(.top, .int .u32 (IntKind.wrap .u32 (x4.PC_ + 4))), (.top, .int .u32 x4.EPC_), (.top, .int .u32 x4.Cause_), (.top, .int .i64 x4.State_), (.top, .int .i64 x4.Why_), (.top, .int .i64 x4.Steps_), (.top, .int .i64 x4.Taken_), ((.own 1), .sl 2 (List.map Ad x4.Out_)), (.top, .int .u32 x4.setup_.Entry_), (.top, .int .u32 x4.setup_.Vector_), (.top, .int .u32 x4.setup_.Guard_), (.top, .int .u32 x4.setup_.Limit_), ((.own 1), .sl 1 (List.map (eI .i32) x4.input_))])
 let E34 : EN := (117, vu x4.PC_)
 let E35 : EN := (118, vu (IntKind.wrap .u32 (x4.PC_ + 4)))
 let L53 : List EN := L42 ++ [E34, E35] ++ L45 ++ [(121, vo i1 (o2 + 14))]
 let L55 : List EN := L50 ++ [(107, vu x4.PC_), (108, vu (IntKind.wrap .u32 (x4.PC_ + 4))), (109, vo i1 o2), (110, vo i1 (o2 + 16))]
 obtain ⟨v6, h7, hF⟩ := Ab hF
 let E12 : EN := (20, vu (IntKind.wrap .u32 (v6 + (IntKind.wrap .u32 p2.Imm_))))
 let E13 : EN := (6, vu (IntKind.wrap .u32 (v6 + (IntKind.wrap .u32 p2.Imm_))))
 let E17 : EN := (47, vu (IntKind.wrap .u32 (v6 + (IntKind.wrap .u32 p2.Imm_))))
 let E21 : EN := (64, vu (IntKind.wrap .u32 (v6 + (IntKind.wrap .u32 p2.Imm_))))
 let L38 : Ptr → List EN := fun z0 => [E8] ++ (L37 z0) ++ [E13]
 let L41 : Ptr → List EN := fun z0 => (L38 z0) ++ [(E20 z0), E21, E22, (66, vl 5 1)]
 let L46 : Ptr → List EN := fun z0 => (L38 z0) ++ [(22, vi p2.Op_)]
 let L48 : Ptr → List EN := fun z0 => (L41 z0) ++ [E23, E24, (69, vo i1 o2)]
 let L52 : Ptr → List EN := fun z0 => (L44 z0) ++ [E9, (16, vu v6), (17, vl 5 4)]
 let L63 : List EN := L36 ++ [E13, (38, vo i1 o2), (39, vl 5 1), (40, vi p2.A_), (41, vu (IntKind.wrap .u32 (v6 + (IntKind.wrap .u32 p2.Imm_))))]
 refine Bs (.take 0 (.take 1 (.take 2 (.take 3 (.take 4 (.take 5 (.take 6 (.take 7 (.take 8 (.take 9 (.take 10 (.take 11 .done)))))))))))) (by kernel_rfl) (⟨(L38 p1), [B5], H⟩ : St) ?_ ?_
 refine Aq ⟨[(E4 p0)] ++ (L37 p1) ++ [(10, vp p0)], [B5], H⟩ (by generalize p0 = qp0; generalize p1 = qp1; cases qp0 <;> cases qp1 <;> kernel_rfl) ?_
 refine Aq ⟨[(E4 p0)] ++ (L37 p1) ++ [(10, vp p0), E6], [B5], H⟩ (by generalize p0 = qp0; generalize p1 = qp1; cases qp0 <;> cases qp1 <;> kernel_rfl) ?_
 refine Aq ⟨[(E4 p0)] ++ (L37 p1) ++ [(10, vp p0), E6, E7], [B5], H⟩ (by generalize p0 = qp0; generalize p1 = qp1; cases qp0 <;> cases qp1 <;> kernel_rfl) ?_
 refine Fi (congrArg (fun q => (⟨[(0, vp q)] ++ (L37 p1) ++ [(10, vp q), E6, E7], [B5], H⟩ : St)) h3) ?_
 refine Aq ⟨[E8] ++ (L37 p1) ++ L40, [B5], H⟩ (by generalize p1 = qp0; cases qp0 <;> kernel_rfl) ?_
 refine Aq ⟨(L44 p1), [B5], H⟩ (by generalize p1 = qp0; cases qp0 <;> kernel_rfl) ?_
 refine Aq ⟨(L44 p1) ++ [E9], [B5], H⟩ (Lb (X := X) (⟨(L44 p1), [B5], H⟩ : St) 46 35 16 h7 i1 o2 (some 15) (by generalize p1 = qp0; cases qp0 <;> kernel_rfl) (by generalize p1 = qp0; cases qp0 <;> kernel_rfl) (by generalize p1 = qp0; cases qp0 <;> kernel_rfl) (by generalize p1 = qp0; cases qp0 <;> kernel_rfl)) ?_
 refine Aq ⟨(L44 p1) ++ [E9, (16, vu v6)], [B5], H⟩ (Kq (X := X) (⟨(L44 p1) ++ [E9], [B5], H⟩ : St) 35 16 h7 V5 0 (fun q => .int .u32 q) (some 16) (by generalize p1 = qp0; cases qp0 <;> kernel_rfl) (by generalize p1 = qp0; cases qp0 <;> kernel_rfl) (by generalize p1 = qp0; cases qp0 <;> kernel_rfl) (by generalize p1 = qp0; cases qp0 <;> kernel_rfl) (by generalize p1 = qp0; cases qp0 <;> kernel_rfl) (by generalize p1 = qp0; cases qp0 <;> kernel_rfl)) ?_
 refine Aq ⟨(L52 p1), [B5], H⟩ (by generalize p1 = qp0; cases qp0 <;> kernel_rfl) ?_
 refine Aq ⟨(L52 p1) ++ [E10], [B5], H⟩ (by generalize p1 = qp0; cases qp0 <;> kernel_rfl) ?_
 refine Aq ⟨(L52 p1) ++ [E10, E11], [B5], H⟩ (by generalize p1 = qp0; cases qp0 <;> kernel_rfl) ?_
 refine Aq ⟨(L52 p1) ++ [E10, E11, E12], [B5], H⟩ (by generalize p1 = qp0; cases qp0 <;> kernel_rfl) ?_
 refine Aq ⟨(L38 p1) ++ L40 ++ [(14, vo i1 o2), E9, (16, vu v6), (17, vl 5 4), E10, E11, E12], [B5], H⟩ (by generalize p1 = qp0; cases qp0 <;> kernel_rfl) ?_
 exact yde
 refine ysg ⟨(L46 p1), [B5], H⟩ ?_ (h := (by generalize p1 = qp0; cases qp0 <;> kernel_rfl))
 refine Bt ?_
 refine ysg ⟨(L46 p1) ++ [(27, vb (p2.Op_ == 2))], [B5], H⟩ ?_ (h := (by generalize p1 = qp0; cases qp0 <;> kernel_rfl))
 refine As (α := (Ah)) (fun x => (⟨[], [], x⟩ : St)) (fun x => Hg x = some Hr) ?_ ?_
 rintro H8 hF
 replace hF : Hg H8 = some Hr := hF
 unfold Hg at hF
 obtain e0 := Am hF
 subst e0
 exact yi (vN)
 rcases Ae hF with ⟨h9, hF⟩ | ⟨h9, hF⟩
 refine yT h9 ⟨L36, [B5], H⟩ ?_
 obtain ⟨H11, c10, hF⟩ := Ab hF
 refine Aj ⟨[], [], H11⟩ ?_ ?_
 refine yr 6 ⟨L58, [B5], H⟩ ?_
 refine Ai ⟨L58 ++ [(35, vN)], [B5], H11⟩ (yc (some 35) false false (⟨L58, [B5], H⟩ : St) (Bi H c10)) ?_
 exact ye
 exact ⟨H11, hF, (by kernel_rfl)⟩
 refine yF h9 ⟨(L46 p1), [B5], H⟩ ?_
 refine ysg ⟨(L46 p1) ++ [(36, vb (p2.Op_ == 5))], [B5], H⟩ ?_ (h := (by generalize p1 = qp0; cases qp0 <;> kernel_rfl))
 refine As (α := (Ah)) (fun x => (⟨[], [], x⟩ : St)) (fun x => Hh x = some Hr) ?_ ?_
 rintro H12 hF
 replace hF : Hh H12 = some Hr := hF
 unfold Hh at hF
 exact ⟨H12, hF, (by kernel_rfl)⟩
 rcases Ae hF with ⟨h13, hF⟩ | ⟨h13, hF⟩
 refine yT h13 ⟨L36 ++ [E13], [B5], H⟩ ?_
 obtain ⟨H15, c14, hF⟩ := Ab hF
 refine Aj ⟨[], [], H15⟩ ?_ ?_
 refine yr 4 ⟨L63, [B5], H⟩ ?_
 refine Ai ⟨L63 ++ [(42, vN)], [B5], H15⟩ (yc (some 42) false false (⟨L63, [B5], H⟩ : St) (Bi H c14)) ?_
 exact ye
 exact ⟨H15, hF, (by kernel_rfl)⟩
 refine yF h13 ⟨(L46 p1), [B5], H⟩ ?_
 refine ysg ⟨(L46 p1) ++ [(43, vb (p2.Op_ == 18))], [B5], H⟩ ?_ (h := (by generalize p1 = qp0; cases qp0 <;> kernel_rfl))
 refine As (α := (Ah)) (fun x => (⟨[], [], x⟩ : St)) (fun x => Hi x = some Hr) ?_ ?_
 rintro H16 hF
 replace hF : Hi H16 = some Hr := hF
 unfold Hi at hF
 exact ⟨H16, hF, (by kernel_rfl)⟩
 rcases Ae hF with ⟨h17, hF⟩ | ⟨h17, hF⟩
 refine yT h17 ⟨(L38 p1), [B5], H⟩ ?_
 refine Ag ?_
 obtain ⟨r18, r19, c20, hF⟩ := Be hF
 let E14 : EN := (7, vu r18)
 let E15 : EN := (8, vi r19)
 let E18 : EN := (48, .tup [vu r18, vi r19])
 let L57 : List EN := [E8, E15, (53, vo i1 o2), (54, vi r19)]
 let L62 : List EN := L36 ++ [E14, (56, vo i1 o2), (57, vl 5 1), (58, vi p2.A_), (59, vu r18)]
 refine Aj ⟨L36 ++ [E14, E15], [B5], H⟩ ?_ ?_
 refine yr 2 ⟨(L38 p1) ++ [(E16 p1), E17], [B5], H⟩ ?_ (h := (by generalize p1 = qp0; cases qp0 <;> kernel_rfl))
 refine Ai ⟨(L38 p1) ++ [(E16 p1), E17, E18], [B5], H⟩ (yc (some 48) true false (⟨(L38 p1) ++ [(E16 p1), E17], [B5], H⟩ : St) (Ox H c20) (hr := (by generalize p1 = qp0; cases qp0 <;> kernel_rfl)) (hs := (by generalize p1 = qp0; cases qp0 <;> kernel_rfl))) ?_
 refine yr 5 ⟨(L38 p1) ++ [E14, E15, (45, .tup [vu r18, vi r19]), (E16 p1), E17, E18, (49, vu r18), (50, vi r19)], [B5], H⟩ ?_ (h := (by generalize p1 = qp0; cases qp0 <;> kernel_rfl))
 exact ye
 refine Ag ?_
 refine ysg ⟨L36 ++ [E14, E15, (52, vb (r19 != 0))], [B5], H⟩ ?_
 rcases Ae hF with ⟨h21, hF⟩ | ⟨h21, hF⟩
 refine yT h21 ⟨[E8, E15], [], H⟩ ?_
 refine Ag ?_
 obtain ⟨H23, c22, hF⟩ := Ab hF
 refine Aj ⟨[], [], H23⟩ ?_ ?_
 refine yr 2 ⟨L57, [], H⟩ ?_
 refine Ai ⟨L57 ++ [(55, vN)], [], H23⟩ (yc (some 55) false false (⟨L57, [], H⟩ : St) (Fj H c22)) ?_
 exact ye
 refine Au ?_
 obtain e0 := Am hF
 subst e0
 exact yi (vN)
 refine yF h21 ⟨L36 ++ [E14], [B5], H⟩ ?_
 refine Ao ?_
 obtain ⟨H25, c24, hF⟩ := Ab hF
 refine Aj ⟨[], [], H25⟩ ?_ ?_
 refine yr 4 ⟨L62, [B5], H⟩ ?_
 refine Ai ⟨L62 ++ [(60, vN)], [B5], H25⟩ (yc (some 60) false false (⟨L62, [B5], H⟩ : St) (Bi H c24)) ?_
 exact ye
 exact ⟨H25, hF, (by kernel_rfl)⟩
 refine yF h17 ⟨(L46 p1), [B5], H⟩ ?_
 refine ysg ⟨(L46 p1) ++ [(61, vb (p2.Op_ == 19))], [B5], H⟩ ?_ (h := (by generalize p1 = qp0; cases qp0 <;> kernel_rfl))
 refine As (α := (Ah)) (fun x => (⟨[], [], x⟩ : St)) (fun x => Hj x = some Hr) ?_ ?_
 rintro H26 hF
 replace hF : Hj H26 = some Hr := hF
 unfold Hj at hF
 exact ⟨H26, hF, (by kernel_rfl)⟩
 rcases Ae hF with ⟨h27, hF⟩ | ⟨h27, hF⟩
 refine yT h27 ⟨(L38 p1), [B5], H⟩ ?_
 refine Ag ?_
 refine Ag ?_
 obtain ⟨v28, h29, hF⟩ := Ab hF
 let E26 : EN := (71, vu v28)
 obtain ⟨H32, r30, c31, hF⟩ := Be hF
 let E19 : EN := (9, vi r30)
 let L56 : List EN := [E8, E19, (75, vo i1 o2), (76, vi r30)]
 refine Bs (.take 0 (.take 1 (.take 2 (.take 3 (.take 4 (.take 5 (.take 6 (.take 7 (.last 8 (.last 9 (.take 10 .done))))))))))) (by kernel_rfl) (⟨[E8, E19], [], H32⟩ : St) ?_ ?_
 refine Aq ⟨(L38 p1) ++ [(E20 p1)], [B5], H⟩ (by generalize p1 = qp0; cases qp0 <;> kernel_rfl) ?_
 refine Aq ⟨(L38 p1) ++ [(E20 p1), E21], [B5], H⟩ (by generalize p1 = qp0; cases qp0 <;> kernel_rfl) ?_
 refine Aq ⟨(L38 p1) ++ [(E20 p1), E21, E22], [B5], H⟩ (by generalize p1 = qp0; cases qp0 <;> kernel_rfl) ?_
 refine Aq ⟨(L41 p1), [B5], H⟩ (by generalize p1 = qp0; cases qp0 <;> kernel_rfl) ?_
 refine Aq ⟨(L41 p1) ++ [E23], [B5], H⟩ (by generalize p1 = qp0; cases qp0 <;> kernel_rfl) ?_
 refine Aq ⟨(L41 p1) ++ [E23, E24], [B5], H⟩ (by generalize p1 = qp0; cases qp0 <;> kernel_rfl) ?_
 refine Aq ⟨(L48 p1), [B5], H⟩ (by generalize p1 = qp0; cases qp0 <;> kernel_rfl) ?_
 refine Aq ⟨(L48 p1) ++ [E25], [B5], H⟩ (Lb (X := X) (⟨(L48 p1), [B5], H⟩ : St) 46 35 16 h29 i1 o2 (some 70) (by generalize p1 = qp0; cases qp0 <;> kernel_rfl) (by generalize p1 = qp0; cases qp0 <;> kernel_rfl) (by generalize p1 = qp0; cases qp0 <;> kernel_rfl) (by generalize p1 = qp0; cases qp0 <;> kernel_rfl)) ?_
 refine Br ⟨(L48 p1) ++ [E25, E26], [B5], H⟩ (Kq (X := X) (⟨(L48 p1) ++ [E25], [B5], H⟩ : St) 35 16 h29 V5 0 (fun q => .int .u32 q) (some 71) (by generalize p1 = qp0; cases qp0 <;> kernel_rfl) (by generalize p1 = qp0; cases qp0 <;> kernel_rfl) (by generalize p1 = qp0; cases qp0 <;> kernel_rfl) (by generalize p1 = qp0; cases qp0 <;> kernel_rfl) (by generalize p1 = qp0; cases qp0 <;> kernel_rfl) (by generalize p1 = qp0; cases qp0 <;> kernel_rfl)) ?_
 refine Br ⟨(L48 p1) ++ [E25, E26, (72, vi r30)], [B5], H32⟩ (yc (some 72) false false (⟨(L48 p1) ++ [E25, E26], [B5], H⟩ : St) (Sq H c31) (hr := (by generalize p1 = qp0; cases qp0 <;> kernel_rfl)) (hs := (by generalize p1 = qp0; cases qp0 <;> kernel_rfl))) ?_
 refine Aq ⟨(L38 p1) ++ [E19, (E20 p1), E21, E22, (66, vl 5 1), E23, E24, (69, vo i1 o2), E25, E26, (72, vi r30)], [B5], H32⟩ (by generalize p1 = qp0; cases qp0 <;> kernel_rfl) ?_
 exact yde
 refine ysg ⟨[E8, E19, (74, vb (r30 != 0))], [], H32⟩ ?_
 rcases Ae hF with ⟨h33, hF⟩ | ⟨h33, hF⟩
 refine yT h33 ⟨[E8, E19], [], H32⟩ ?_
 refine Ag ?_
 obtain ⟨H35, c34, hF⟩ := Ab hF
 refine Aj ⟨[], [], H35⟩ ?_ ?_
 refine yr 2 ⟨L56, [], H32⟩ ?_
 refine Ai ⟨L56 ++ [(77, vN)], [], H35⟩ (yc (some 77) false false (⟨L56, [], H32⟩ : St) (Fj H32 c34)) ?_
 exact ye
 refine Au ?_
 obtain e0 := Am hF
 subst e0
 exact yi (vN)
 refine yF h33 ⟨[E8], [], H32⟩ ?_
 refine Ao ?_
 obtain ⟨x36, V37, hF⟩ := Ab hF
 replace V37 := Bb V37
 let W2 : Ah := Dt H32 i1 o2 (arM .u32 16 x36.R_ ++ [(.top, .int .u32 (IntKind.wrap .u32 (x36.PC_ + 4))), (.top, .int .u32 x36.EPC_), (.top, .int .u32 x36.Cause_), (.top, .int .i64 x36.State_), (.top, .int .i64 x36.Why_), (.top, .int .i64 x36.Steps_), (.top, .int .i64 x36.Taken_), ((.own 1), .sl 2 (List.map Ad x36.Out_)), (.top, .int .u32 x36.setup_.Entry_), (.top, .int .u32 x36.setup_.Vector_), (.top, .int .u32 x36.setup_.Guard_), (.top, .int .u32 x36.setup_.Limit_), ((.own 1), .sl 1 (List.map (eI .i32) x36.input_))])
 let L54 : List EN := L49 ++ [(81, vu x36.PC_), (82, vu (IntKind.wrap .u32 (x36.PC_ + 4))), (83, vo i1 o2), (84, vo i1 (o2 + 16))]
 obtain ⟨H38, h39, hF⟩ := Cl hF
 have V40 : Ct H38 i1 o2 29 = some (Bz (T_cpu_Cpu.mk x36.R_ (IntKind.wrap .u32 (x36.PC_ + 4)) x36.EPC_ x36.Cause_ x36.State_ x36.Why_ x36.Steps_ x36.Taken_ x36.Out_ x36.setup_ x36.input_)) := by rw [← h39]; exact Bv V37 rfl
 refine Aj ⟨[], [], H38⟩ ?_ ?_
 refine yr 2 ⟨[E8, (78, vo i1 o2), (79, vo i1 o2)], [], H32⟩ ?_
 refine yr 1 ⟨L49, [], H32⟩ ?_
 refine Ai ⟨L49 ++ [(81, vu x36.PC_)], [], H32⟩ (yd (X := X) (⟨L49, [], H32⟩ : St) 35 V37 16 1 false (vu x36.PC_) (some 81)) ?_
 refine yr 3 ⟨L54, [], H32⟩ ?_
 refine Ai ⟨L54, [], W2⟩ (G7 (X := X) (lc := []) (h2 := W2) (⟨L54, [], H32⟩ : St) 35 V37 16 1 (vu (IntKind.wrap .u32 (x36.PC_ + 4))) (by kernel_rfl) (by kernel_rfl) (by kernel_rfl) (by kernel_rfl) (by kernel_rfl) (by kernel_rfl) (Cd V37 (Nat.le_of_ble_eq_true rfl)) (by kernel_rfl)) ?_
 refine Bd (congrArg (fun q => (⟨L54, [], q⟩ : St)) h39) ?_
 exact ye
 exact ⟨H38, hF, (by kernel_rfl)⟩
 refine yF h27 ⟨L47, [B5], H⟩ ?_
 refine Ag ?_
 refine ysg ⟨L47 ++ [(85, vb (p2.Op_ == 20))], [B5], H⟩ ?_
 refine As (α := (Bool)) (fun x => (⟨L47 ++ [(85, vb x)], [B5], H⟩ : St)) (fun x => C5 x4 p2 H i1 o2 x = some Hr) ?_ ?_
 rintro j41 hF
 replace hF : C5 x4 p2 H i1 o2 j41 = some Hr := hF
 unfold C5 at hF
 refine As (α := (Ah)) (fun x => (⟨[], [], x⟩ : St)) (fun x => Hk x = some Hr) ?_ ?_
 rintro H42 hF
 replace hF : Hk H42 = some Hr := hF
 unfold Hk at hF
 exact ⟨H42, hF, (by kernel_rfl)⟩
 rcases Ae hF with ⟨h43, hF⟩ | ⟨h43, hF⟩
 refine yT h43 ⟨L36, [B5], H⟩ ?_
 refine Ag ?_
 obtain ⟨v44, h45, hF⟩ := Ab hF
 let E27 : EN := (99, vb ((v44 == 0) == (p2.Op_ == 20)))
 let L51 : List EN := L43 ++ [E29, (94, vu v44), (95, vb (v44 == 0))]
 refine Bs (.take 0 (.take 1 (.take 2 (.take 3 (.take 4 (.take 5 (.take 6 (.take 7 (.take 8 (.take 9 (.take 10 (.take 11 .done)))))))))))) (by kernel_rfl) (⟨L36 ++ [E27], [B5], H⟩ : St) ?_ ?_
 refine ydk 5 ⟨L43, [B5], H⟩ ?_
 refine Aq ⟨L43 ++ [E29], [B5], H⟩ (Lb (X := X) (⟨L43, [B5], H⟩ : St) 46 35 16 h45 i1 o2 (some 93) (by kernel_rfl) (by kernel_rfl) (by kernel_rfl) (by kernel_rfl)) ?_
 refine Aq ⟨L43 ++ [E29, (94, vu v44)], [B5], H⟩ (Kq (X := X) (⟨L43 ++ [E29], [B5], H⟩ : St) 35 16 h45 V5 0 (fun q => .int .u32 q) (some 94) (by kernel_rfl) (by kernel_rfl) (by kernel_rfl) (by kernel_rfl) (by kernel_rfl) (by kernel_rfl)) ?_
 refine ydk 5 ⟨L51 ++ [E30, E31, (98, vb (p2.Op_ == 20)), E27], [B5], H⟩ ?_
 exact yde
 refine As (α := (Ah)) (fun x => (⟨[], [], x⟩ : St)) (fun x => Hl x = some Hr) ?_ ?_
 rintro H46 hF
 replace hF : Hl H46 = some Hr := hF
 unfold Hl at hF
 exact ⟨H46, hF, (by kernel_rfl)⟩
 rcases Ae hF with ⟨h47, hF⟩ | ⟨h47, hF⟩
 refine yT h47 ⟨L36, [B5], H⟩ ?_
 obtain ⟨H49, c48, hF⟩ := Ab hF
 refine Aj ⟨[], [], H49⟩ ?_ ?_
 refine yr 3 ⟨L59, [B5], H⟩ ?_
 refine Ai ⟨L59 ++ [(103, vN)], [B5], H49⟩ (yc (some 103) false false (⟨L59, [B5], H⟩ : St) (N0 H c48)) ?_
 exact ye
 exact ⟨H49, hF, (by kernel_rfl)⟩
 refine yF h47 ⟨[E8], [], H⟩ ?_
 obtain ⟨H50, h51, hF⟩ := Cl hF
 have V52 : Ct H50 i1 o2 29 = some (Bz (T_cpu_Cpu.mk x4.R_ (IntKind.wrap .u32 (x4.PC_ + 4)) x4.EPC_ x4.Cause_ x4.State_ x4.Why_ x4.Steps_ x4.Taken_ x4.Out_ x4.setup_ x4.input_)) := by rw [← h51]; exact Bv V5 rfl
 refine Aj ⟨[], [], H50⟩ ?_ ?_
 refine yr 3 ⟨L50, [], H⟩ ?_
 refine Ai ⟨L50 ++ [(107, vu x4.PC_)], [], H⟩ (yd (X := X) (⟨L50, [], H⟩ : St) 35 V5 16 1 false (vu x4.PC_) (some 107)) ?_
 refine yr 3 ⟨L55, [], H⟩ ?_
 refine Ai ⟨L55, [], W3⟩ (G7 (X := X) (lc := []) (h2 := W3) (⟨L55, [], H⟩ : St) 35 V5 16 1 (vu (IntKind.wrap .u32 (x4.PC_ + 4))) (by kernel_rfl) (by kernel_rfl) (by kernel_rfl) (by kernel_rfl) (by kernel_rfl) (by kernel_rfl) (Cd V5 (Nat.le_of_ble_eq_true rfl)) (by kernel_rfl)) ?_
 refine Bd (congrArg (fun q => (⟨L55, [], q⟩ : St)) h51) ?_
 exact ye
 exact ⟨H50, hF, (by kernel_rfl)⟩
 refine yF h43 ⟨L47, [B5], H⟩ ?_
 refine ysg ⟨L36 ++ [(111, vb (p2.Op_ == 23))], [B5], H⟩ ?_
 refine As (α := (Ah)) (fun x => (⟨[], [], x⟩ : St)) (fun x => Hn x = some Hr) ?_ ?_
 rintro H53 hF
 replace hF : Hn H53 = some Hr := hF
 unfold Hn at hF
 exact ⟨H53, hF, (by kernel_rfl)⟩
 rcases Ae hF with ⟨h54, hF⟩ | ⟨h54, hF⟩
 refine yT h54 ⟨L36, [B5], H⟩ ?_
 refine Ag ?_
 obtain ⟨H55, h56, hF⟩ := Cl hF
 have V57 : Ct H55 i1 o2 29 = some (Bz (T_cpu_Cpu.mk (Ij [(x4.R_.g 0), (x4.R_.g 1), (x4.R_.g 2), (x4.R_.g 3), (x4.R_.g 4), (x4.R_.g 5), (x4.R_.g 6), (x4.R_.g 7), (x4.R_.g 8), (x4.R_.g 9), (x4.R_.g 10), (x4.R_.g 11), (x4.R_.g 12), (x4.R_.g 13), (IntKind.wrap .u32 (x4.PC_ + 4)), (x4.R_.g 15)] : Arr 16 Int) x4.PC_ x4.EPC_ x4.Cause_ x4.State_ x4.Why_ x4.Steps_ x4.Taken_ x4.Out_ x4.setup_ x4.input_)) := by rw [← h56]; exact Bv V5 rfl
 refine Bs (.take 0 (.take 1 (.take 2 (.take 3 (.take 6 (.take 7 (.last 4 (.take 5 (.take 8 (.last 9 .done)))))))))) (by kernel_rfl) (⟨L36, [B5], H55⟩ : St) ?_ ?_
 refine ydk 6 ⟨L42 ++ L45, [B5], H⟩ ?_
 refine Br ⟨L42 ++ [E34] ++ L45, [B5], H⟩ (yd (X := X) (⟨L42 ++ L45, [B5], H⟩ : St) 35 V5 16 1 false (vu x4.PC_) (some 117)) ?_
 refine ydk 2 ⟨L53, [B5], H⟩ ?_
 refine Br ⟨L53, [B5], W1⟩ (G7 (X := X) (lc := [5]) (h2 := W1) (⟨L53, [B5], H⟩ : St) 35 V5 14 1 (vu (IntKind.wrap .u32 (x4.PC_ + 4))) (by kernel_rfl) (by kernel_rfl) (by kernel_rfl) (by kernel_rfl) (by kernel_rfl) (by kernel_rfl) (Cd V5 (Nat.le_of_ble_eq_true rfl)) (by kernel_rfl)) ?_
 refine Fi (congrArg (fun q => (⟨L53, [B5], q⟩ : St)) h56) ?_
 exact yde
 obtain ⟨H59, c58, hF⟩ := Ab hF
 refine Aj ⟨[], [], H59⟩ ?_ ?_
 refine yr 3 ⟨L60, [B5], H55⟩ ?_
 refine Ai ⟨L60 ++ [(125, vN)], [B5], H59⟩ (yc (some 125) false false (⟨L60, [B5], H55⟩ : St) (N0 H55 c58)) ?_
 exact ye
 exact ⟨H59, hF, (by kernel_rfl)⟩
 refine yF h54 ⟨L36, [B5], H⟩ ?_
 obtain ⟨H61, c60, hF⟩ := Ab hF
 refine Aj ⟨[], [], H61⟩ ?_ ?_
 refine yr 3 ⟨L61, [B5], H⟩ ?_
 refine Ai ⟨L61 ++ [(26, vN)], [B5], H61⟩ (yc (some 26) false false (⟨L61, [B5], H⟩ : St) (N0 H c60)) ?_
 exact ye
 exact ⟨H61, hF, (by kernel_rfl)⟩
 rcases Ae hF with ⟨h62, hF⟩ | ⟨h62, hF⟩
 refine yT h62 ⟨L47 ++ [(85, vb (p2.Op_ == 20))], [B5], H⟩ ?_
 refine Ao ?_
 exact ⟨(p2.Op_ == 20), hF, (by kernel_rfl)⟩
 refine yF h62 ⟨L47, [B5], H⟩ ?_
 refine yg ⟨L47 ++ [(85, vb (p2.Op_ == 21))], [B5], H⟩ ?_
 exact ⟨(p2.Op_ == 21), hF, (by kernel_rfl)⟩
noncomputable def Fn (H1 : Ah) : Option (Ah) :=
  some H1
noncomputable def Fo (H10 : Ah) : Option (Ah) :=
  Fn H10
noncomputable def Ek (H : Ah) (p0 : Ptr) (p1 : T_instr_Instr) : Option (Ah) :=
  if (p1.Imm_ == 0) = true then ((p0).bnd fun i3 o4 =>
  Af (Bf H i3 o4) fun x6 =>
  Af (Bh H (Ptr.at i3 o4) p1.A_ x6.EPC_) fun H9 =>
  Fn H9)
  else (if (p1.Imm_ == 1) = true then ((p0).bnd fun i12 o13 =>
  Af (Bf H i12 o13) fun x15 =>
  Af (Bh H (Ptr.at i12 o13) p1.A_ x15.Cause_) fun H18 =>
  Fo H18)
  else (Af (Bq H p0 20) fun H20 =>
  Fo H20))
theorem Tv (H : Ah) {p0 : Ptr} {p1 : T_instr_Instr} {Hr : Ah} (hF : Ek H p0 p1 = some Hr) : evS X 128 [.one .top (Ptr.av p0), .agg (Ap p1)] H = some (.tup [], Hr) := by
 let E1 : Ptr → EN := fun z0 => (0, vp z0)
 let B2 : EB := (3, (Ap p1))
 let E3 : EN := (5, vi p1.Imm_)
 let E4 : Ptr → EN := fun z0 => (10, vp z0)
 let E5 : EN := (11, vl 3 1)
 let E6 : EN := (12, vi p1.A_)
 let E7 : EN := (3, vl 3 0)
 let E10 : Ptr → EN := fun z0 => (20, vp z0)
 let E11 : EN := (21, vl 3 1)
 let E12 : EN := (22, vi p1.A_)
 let L15 : Ptr → List EN := fun z0 => [(E1 z0), E7]
 let S18 : Ptr → St := fun z0 => ⟨[(E1 z0), (6, vp z0)], [], H⟩
 refine yf Try.func128 false ⟨[(E1 p0), (1, .agg (Ap p1))], [], H⟩ ?_
 unfold Ek at hF
 refine ysg ⟨(L15 p0), [B2], H⟩ ?_ (h := (by generalize p0 = qp0; cases qp0 <;> kernel_rfl))
 refine ysg ⟨(L15 p0) ++ [E3], [B2], H⟩ ?_ (h := (by generalize p0 = qp0; cases qp0 <;> kernel_rfl))
 refine Bt ?_
 refine ysg ⟨(L15 p0) ++ [E3, (8, vb (p1.Imm_ == 0))], [B2], H⟩ ?_ (h := (by generalize p0 = qp0; cases qp0 <;> kernel_rfl))
 refine As (α := (Ah)) (fun x => (⟨[], [], x⟩ : St)) (fun x => Fn x = some Hr) ?_ ?_
 rintro H1 hF
 replace hF : Fn H1 = some Hr := hF
 unfold Fn at hF
 obtain e0 := Am hF
 subst e0
 exact yi (vN)
 rcases Ae hF with ⟨h2, hF⟩ | ⟨h2, hF⟩
 refine yT h2 ⟨(L15 p0), [B2], H⟩ ?_
 obtain ⟨i3, o4, h5, hF⟩ := Bu hF
 let E8 : EN := (15, vo i3 (o4 + 17))
 let L16 : List EN := [(0, vo i3 o4), E7, (10, vo i3 o4), E5, E6, (13, vo i3 o4), (14, vo i3 o4)]
 obtain ⟨x6, V7, hF⟩ := Ab hF
 replace V7 := Bb V7
 let E9 : EN := (16, vu x6.EPC_)
 obtain ⟨H9, c8, hF⟩ := Ab hF
 refine Bs (.take 0 (.take 1 (.take 2 (.take 3 (.take 4 (.take 5 (.last 6 (.last 7 .done)))))))) (by kernel_rfl) (⟨[], [], H9⟩ : St) ?_ ?_
 refine Aq ⟨(L15 p0) ++ [(E4 p0)], [B2], H⟩ (by generalize p0 = qp0; cases qp0 <;> kernel_rfl) ?_
 refine Aq ⟨(L15 p0) ++ [(E4 p0), E5], [B2], H⟩ (by generalize p0 = qp0; cases qp0 <;> kernel_rfl) ?_
 refine Aq ⟨(L15 p0) ++ [(E4 p0), E5, E6], [B2], H⟩ (by generalize p0 = qp0; cases qp0 <;> kernel_rfl) ?_
 refine Aq ⟨(L15 p0) ++ [(E4 p0), E5, E6, (13, vp p0)], [B2], H⟩ (by generalize p0 = qp0; cases qp0 <;> kernel_rfl) ?_
 refine Fi (congrArg (fun q => (⟨[(0, vp q), E7, (10, vp q), E5, E6, (13, vp q)], [B2], H⟩ : St)) h5) ?_
 refine ydk 2 ⟨L16 ++ [E8], [B2], H⟩ ?_
 refine Br ⟨L16 ++ [E8, E9], [B2], H⟩ (yd (X := X) (⟨L16 ++ [E8], [B2], H⟩ : St) 35 V7 17 1 false (vu x6.EPC_) (some 16)) ?_
 refine Br ⟨L16 ++ [E8, E9, (17, vN)], [B2], H9⟩ (yc (some 17) false false (⟨L16 ++ [E8, E9], [B2], H⟩ : St) (Bi H c8)) ?_
 exact yde
 exact ⟨H9, hF, (by kernel_rfl)⟩
 refine yF h2 ⟨(L15 p0) ++ [E3], [B2], H⟩ ?_
 refine ysg ⟨(L15 p0) ++ [(18, vb (p1.Imm_ == 1))], [B2], H⟩ ?_ (h := (by generalize p0 = qp0; cases qp0 <;> kernel_rfl))
 refine As (α := (Ah)) (fun x => (⟨[], [], x⟩ : St)) (fun x => Fo x = some Hr) ?_ ?_
 rintro H10 hF
 replace hF : Fo H10 = some Hr := hF
 unfold Fo at hF
 exact ⟨H10, hF, (by kernel_rfl)⟩
 rcases Ae hF with ⟨h11, hF⟩ | ⟨h11, hF⟩
 refine yT h11 ⟨(L15 p0), [B2], H⟩ ?_
 obtain ⟨i12, o13, h14, hF⟩ := Bu hF
 let E13 : EN := (25, vo i12 (o13 + 18))
 let L17 : List EN := [(0, vo i12 o13), E7, (20, vo i12 o13), E11, E12, (23, vo i12 o13), (24, vo i12 o13)]
 obtain ⟨x15, V16, hF⟩ := Ab hF
 replace V16 := Bb V16
 let E14 : EN := (26, vu x15.Cause_)
 obtain ⟨H18, c17, hF⟩ := Ab hF
 refine Bs (.take 0 (.take 1 (.take 2 (.take 3 (.take 4 (.take 5 (.last 6 (.last 7 .done)))))))) (by kernel_rfl) (⟨[], [], H18⟩ : St) ?_ ?_
 refine Aq ⟨(L15 p0) ++ [(E10 p0)], [B2], H⟩ (by generalize p0 = qp0; cases qp0 <;> kernel_rfl) ?_
 refine Aq ⟨(L15 p0) ++ [(E10 p0), E11], [B2], H⟩ (by generalize p0 = qp0; cases qp0 <;> kernel_rfl) ?_
 refine Aq ⟨(L15 p0) ++ [(E10 p0), E11, E12], [B2], H⟩ (by generalize p0 = qp0; cases qp0 <;> kernel_rfl) ?_
 refine Aq ⟨(L15 p0) ++ [(E10 p0), E11, E12, (23, vp p0)], [B2], H⟩ (by generalize p0 = qp0; cases qp0 <;> kernel_rfl) ?_
 refine Fi (congrArg (fun q => (⟨[(0, vp q), E7, (20, vp q), E11, E12, (23, vp q)], [B2], H⟩ : St)) h14) ?_
 refine ydk 2 ⟨L17 ++ [E13], [B2], H⟩ ?_
 refine Br ⟨L17 ++ [E13, E14], [B2], H⟩ (yd (X := X) (⟨L17 ++ [E13], [B2], H⟩ : St) 35 V16 18 1 false (vu x15.Cause_) (some 26)) ?_
 refine Br ⟨L17 ++ [E13, E14, (27, vN)], [B2], H18⟩ (yc (some 27) false false (⟨L17 ++ [E13, E14], [B2], H⟩ : St) (Bi H c17)) ?_
 exact yde
 exact ⟨H18, hF, (by kernel_rfl)⟩
 refine yF h11 ⟨[(E1 p0)], [], H⟩ ?_
 obtain ⟨H20, c19, hF⟩ := Ab hF
 refine Aj ⟨[], [], H20⟩ ?_ ?_
 refine yr 1 (S18 p0) ?_ (h := (by generalize p0 = qp0; cases qp0 <;> kernel_rfl))
 refine Ai ⟨[(E1 p0), (6, vp p0), (7, vN)], [], H20⟩ (yc (some 7) false false (S18 p0) (Fj H c19) (hr := (by generalize p0 = qp0; cases qp0 <;> kernel_rfl)) (hs := (by generalize p0 = qp0; cases qp0 <;> kernel_rfl))) ?_
 exact ye
 exact ⟨H20, hF, (by kernel_rfl)⟩
noncomputable def I5 (H1 : Ah) : Option (Ah) :=
  some H1
noncomputable def I6 (H5 : Ah) : Option (Ah) :=
  I5 H5
noncomputable def I7 (H16 : Ah) : Option (Ah) :=
  I6 H16
noncomputable def I8 (H27 : Ah) : Option (Ah) :=
  I7 H27
noncomputable def I9 (H42 : Ah) : Option (Ah) :=
  I8 H42
noncomputable def Cr (H : Ah) (p0 : Ptr) (p1 : T_instr_Instr) : Option (Ah) :=
  if (p1.Op_ == 3) = true then (Af (Bh H p0 p1.A_ (IntKind.wrap .u32 ((IntKind.wrap .u32 p1.Imm_) * 2 ^ 16))) fun H4 =>
  I5 H4)
  else (if (p1.Op_ == 4) = true then ((p0).bnd fun i7 o8 =>
  Af (Bf H i7 o8) fun x10 =>
  Af (ga x10.R_ p1.B_) fun v12 =>
  Af (Bh H (Ptr.at i7 o8) p1.A_ (A9 .or .u32 v12 (IntKind.wrap .u32 p1.Imm_))) fun H15 =>
  I6 H15)
  else (if (p1.Op_ == 34) = true then ((p0).bnd fun i18 o19 =>
  Af (Bf H i18 o19) fun x21 =>
  Af (ga x21.R_ p1.B_) fun v23 =>
  Af (Bh H (Ptr.at i18 o19) p1.A_ (A9 .xor .u32 v23 (IntKind.wrap .u32 p1.Imm_))) fun H26 =>
  I7 H26)
  else (if (p1.Op_ == 26) = true then ((p0).bnd fun i29 o30 =>
  Af (Bf H i29 o30) fun x32 =>
  Af (ga x32.R_ p1.A_) fun v34 =>
  if (decide (v34 ≥ (IntKind.wrap .u32 p1.Imm_))) = true then (Af (C3 H (Ptr.at i29 o30) (IntKind.wrap .u32 p1.B_)) fun H38 =>
  some H38)
  else (bnd (Bl H i29 o30 (T_cpu_Cpu.mk x32.R_ (IntKind.wrap .u32 (x32.PC_ + 4)) x32.EPC_ x32.Cause_ x32.State_ x32.Why_ x32.Steps_ x32.Taken_ x32.Out_ x32.setup_ x32.input_)) fun H39 =>
  I8 H39))
  else (if (p1.Op_ == 30) = true then ((p0).bnd fun i44 o45 =>
  Af (Bf H i44 o45) fun x47 =>
  Af (ga x47.R_ p1.A_) fun v49 =>
  Af (app 16 x47.Out_ ([(T_api_Event.mk p1.Imm_ (IntKind.wrap .i32 v49))] : List T_api_Event)) fun v51 =>
  bnd (Bl H i44 o45 (T_cpu_Cpu.mk x47.R_ x47.PC_ x47.EPC_ x47.Cause_ x47.State_ x47.Why_ x47.Steps_ x47.Taken_ v51 x47.setup_ x47.input_)) fun H53 =>
  bnd (Bl H53 i44 o45 (T_cpu_Cpu.mk x47.R_ (IntKind.wrap .u32 (x47.PC_ + 4)) x47.EPC_ x47.Cause_ x47.State_ x47.Why_ x47.Steps_ x47.Taken_ v51 x47.setup_ x47.input_)) fun H56 =>
  I9 H56)
  else (Af (Ek H p0 p1) fun H60 =>
  I9 H60)))))
theorem Wc (H : Ah) {p0 : Ptr} {p1 : T_instr_Instr} {Hr : Ah} (hF : Cr H p0 p1 = some Hr) : evS X 105 [.one .top (Ptr.av p0), .agg (Ap p1)] H = some (.tup [], Hr) := by
 let B5 : EB := (3, (Ap p1))
 let E6 : Ptr → EN := fun z0 => (23, vp z0)
 let E7 : EN := (24, vl 3 1)
 let E8 : EN := (25, vi p1.A_)
 let E9 : EN := (27, vl 3 2)
 let E10 : EN := (28, vi p1.B_)
 let E12 : EN := (33, vu (IntKind.wrap .u32 p1.Imm_))
 let E13 : Ptr → EN := fun z0 => (38, vp z0)
 let E14 : EN := (39, vl 3 1)
 let E15 : EN := (40, vi p1.A_)
 let E16 : EN := (42, vl 3 2)
 let E17 : EN := (43, vi p1.B_)
 let E19 : EN := (48, vu (IntKind.wrap .u32 p1.Imm_))
 let E21 : EN := (3, vl 3 0)
 let E23 : EN := (54, vl 3 1)
 let E24 : EN := (55, vi p1.A_)
 let E26 : EN := (60, vu (IntKind.wrap .u32 p1.Imm_))
 let E28 : EN := (81, vl 3 4)
 let E29 : EN := (82, vi p1.Imm_)
 let E37 : EN := (11, .agg (Ap p1))
 let L38 : List EN := [E21, (4, vu (IntKind.wrap .u32 p1.Imm_))]
 let L42 : Ptr → List EN := fun z0 => [(0, vp z0)] ++ L38
 let L45 : Ptr → List EN := fun z0 => [(0, vp z0), E21]
 let L50 : Ptr → List EN := fun z0 => (L42 z0) ++ [(9, vi p1.Op_)]
 let L63 : Ptr → List EN := fun z0 => (L42 z0) ++ [(E6 z0), E7, E8, (26, vp z0)]
 let L64 : Ptr → List EN := fun z0 => (L42 z0) ++ [(E13 z0), E14, E15, (41, vp z0)]
 let L65 : Ptr → List EN := fun z0 => (L42 z0) ++ [(15, vp z0), (16, vl 3 1), (17, vi p1.A_), (18, vu (IntKind.wrap .u32 p1.Imm_)), (19, vu (IntKind.wrap .u32 ((IntKind.wrap .u32 p1.Imm_) * 2 ^ 16)))]
 refine yf Try.func105 false ⟨[(0, vp p0), (1, .agg (Ap p1))], [], H⟩ ?_
 unfold Cr at hF
 refine ysg ⟨(L45 p0), [B5], H⟩ ?_ (h := (by generalize p0 = qp0; cases qp0 <;> kernel_rfl))
 refine ysg ⟨(L42 p0), [B5], H⟩ ?_ (h := (by generalize p0 = qp0; cases qp0 <;> kernel_rfl))
 refine ysg ⟨(L50 p0), [B5], H⟩ ?_ (h := (by generalize p0 = qp0; cases qp0 <;> kernel_rfl))
 refine Bt ?_
 refine ysg ⟨(L50 p0) ++ [(13, vb (p1.Op_ == 3))], [B5], H⟩ ?_ (h := (by generalize p0 = qp0; cases qp0 <;> kernel_rfl))
 refine As (α := (Ah)) (fun x => (⟨[], [], x⟩ : St)) (fun x => I5 x = some Hr) ?_ ?_
 rintro H1 hF
 replace hF : I5 H1 = some Hr := hF
 unfold I5 at hF
 obtain e0 := Am hF
 subst e0
 exact yi (vN)
 rcases Ae hF with ⟨h2, hF⟩ | ⟨h2, hF⟩
 refine yT h2 ⟨(L42 p0), [B5], H⟩ ?_
 obtain ⟨H4, c3, hF⟩ := Ab hF
 refine Aj ⟨[], [], H4⟩ ?_ ?_
 refine yr 5 ⟨(L65 p0), [B5], H⟩ ?_ (h := (by generalize p0 = qp0; cases qp0 <;> kernel_rfl))
 refine Ai ⟨(L65 p0) ++ [(20, vN)], [B5], H4⟩ (yc (some 20) false false (⟨(L65 p0), [B5], H⟩ : St) (Bi H c3) (hr := (by generalize p0 = qp0; cases qp0 <;> kernel_rfl)) (hs := (by generalize p0 = qp0; cases qp0 <;> kernel_rfl))) ?_
 exact ye
 exact ⟨H4, hF, (by kernel_rfl)⟩
 refine yF h2 ⟨(L50 p0), [B5], H⟩ ?_
 refine ysg ⟨(L50 p0) ++ [(21, vb (p1.Op_ == 4))], [B5], H⟩ ?_ (h := (by generalize p0 = qp0; cases qp0 <;> kernel_rfl))
 refine As (α := (Ah)) (fun x => (⟨[], [], x⟩ : St)) (fun x => I6 x = some Hr) ?_ ?_
 rintro H5 hF
 replace hF : I6 H5 = some Hr := hF
 unfold I6 at hF
 exact ⟨H5, hF, (by kernel_rfl)⟩
 rcases Ae hF with ⟨h6, hF⟩ | ⟨h6, hF⟩
 refine yT h6 ⟨(L42 p0), [B5], H⟩ ?_
 obtain ⟨i7, o8, h9, hF⟩ := Bu hF
 let E11 : EN := (30, vo i7 o8)
 let L46 : List EN := [(0, vo i7 o8)] ++ L38 ++ [(23, vo i7 o8), E7, E8, (26, vo i7 o8), E9, E10, (29, vo i7 o8)]
 let L53 : List EN := L46 ++ [E11, (31, vo i7 (o8 + Int.toNat p1.B_))]
 obtain ⟨x10, V11, hF⟩ := Ab hF
 replace V11 := Bb V11
 obtain ⟨v12, h13, hF⟩ := Ab hF
 let L61 : List EN := L53 ++ [(32, vu v12), E12, (34, vu (A9 .or .u32 v12 (IntKind.wrap .u32 p1.Imm_)))]
 obtain ⟨H15, c14, hF⟩ := Ab hF
 refine Bs (.take 0 (.take 1 (.take 2 (.take 3 (.take 4 (.take 5 (.take 6 (.take 7 (.take 8 (.take 10 (.last 9 (.take 11 (.last 12 .done))))))))))))) (by kernel_rfl) (⟨[], [], H15⟩ : St) ?_ ?_
 refine Aq ⟨(L42 p0) ++ [(E6 p0)], [B5], H⟩ (by generalize p0 = qp0; cases qp0 <;> kernel_rfl) ?_
 refine Aq ⟨(L42 p0) ++ [(E6 p0), E7], [B5], H⟩ (by generalize p0 = qp0; cases qp0 <;> kernel_rfl) ?_
 refine Aq ⟨(L42 p0) ++ [(E6 p0), E7, E8], [B5], H⟩ (by generalize p0 = qp0; cases qp0 <;> kernel_rfl) ?_
 refine Aq ⟨(L63 p0), [B5], H⟩ (by generalize p0 = qp0; cases qp0 <;> kernel_rfl) ?_
 refine Aq ⟨(L63 p0) ++ [E9], [B5], H⟩ (by generalize p0 = qp0; cases qp0 <;> kernel_rfl) ?_
 refine Aq ⟨(L63 p0) ++ [E9, E10], [B5], H⟩ (by generalize p0 = qp0; cases qp0 <;> kernel_rfl) ?_
 refine Fi (congrArg (fun q => (⟨[(0, vp q)] ++ L38 ++ [(23, vp q), E7, E8, (26, vp q), E9, E10], [B5], H⟩ : St)) h9) ?_
 refine ydk 2 ⟨L46 ++ [E11], [B5], H⟩ ?_
 refine Aq ⟨L53, [B5], H⟩ (Lb (X := X) (⟨L46 ++ [E11], [B5], H⟩ : St) 46 35 16 h13 i7 o8 (some 31) (by kernel_rfl) (by kernel_rfl) (by kernel_rfl) (by kernel_rfl)) ?_
 refine ydt ⟨L53 ++ [E12], [B5], H⟩ ?_
 refine Br ⟨L53 ++ [(32, vu v12), E12], [B5], H⟩ (Kq (X := X) (⟨L53 ++ [E12], [B5], H⟩ : St) 35 16 h13 V11 0 (fun q => .int .u32 q) (some 32) (by kernel_rfl) (by kernel_rfl) (by kernel_rfl) (by kernel_rfl) (by kernel_rfl) (by kernel_rfl)) ?_
 refine ydt ⟨L61, [B5], H⟩ ?_
 refine Br ⟨L61 ++ [(35, vN)], [B5], H15⟩ (yc (some 35) false false (⟨L61, [B5], H⟩ : St) (Bi H c14)) ?_
 exact yde
 exact ⟨H15, hF, (by kernel_rfl)⟩
 refine yF h6 ⟨(L50 p0), [B5], H⟩ ?_
 refine ysg ⟨(L50 p0) ++ [(36, vb (p1.Op_ == 34))], [B5], H⟩ ?_ (h := (by generalize p0 = qp0; cases qp0 <;> kernel_rfl))
 refine As (α := (Ah)) (fun x => (⟨[], [], x⟩ : St)) (fun x => I7 x = some Hr) ?_ ?_
 rintro H16 hF
 replace hF : I7 H16 = some Hr := hF
 unfold I7 at hF
 exact ⟨H16, hF, (by kernel_rfl)⟩
 rcases Ae hF with ⟨h17, hF⟩ | ⟨h17, hF⟩
 refine yT h17 ⟨(L42 p0), [B5], H⟩ ?_
 obtain ⟨i18, o19, h20, hF⟩ := Bu hF
 let E18 : EN := (45, vo i18 o19)
 let L47 : List EN := [(0, vo i18 o19)] ++ L38 ++ [(38, vo i18 o19), E14, E15, (41, vo i18 o19), E16, E17, (44, vo i18 o19)]
 let L54 : List EN := L47 ++ [E18, (46, vo i18 (o19 + Int.toNat p1.B_))]
 obtain ⟨x21, V22, hF⟩ := Ab hF
 replace V22 := Bb V22
 obtain ⟨v23, h24, hF⟩ := Ab hF
 let L62 : List EN := L54 ++ [(47, vu v23), E19, (49, vu (A9 .xor .u32 v23 (IntKind.wrap .u32 p1.Imm_)))]
 obtain ⟨H26, c25, hF⟩ := Ab hF
 refine Bs (.take 0 (.take 1 (.take 2 (.take 3 (.take 4 (.take 5 (.take 6 (.take 7 (.take 8 (.take 10 (.last 9 (.take 11 (.last 12 .done))))))))))))) (by kernel_rfl) (⟨[], [], H26⟩ : St) ?_ ?_
 refine Aq ⟨(L42 p0) ++ [(E13 p0)], [B5], H⟩ (by generalize p0 = qp0; cases qp0 <;> kernel_rfl) ?_
 refine Aq ⟨(L42 p0) ++ [(E13 p0), E14], [B5], H⟩ (by generalize p0 = qp0; cases qp0 <;> kernel_rfl) ?_
 refine Aq ⟨(L42 p0) ++ [(E13 p0), E14, E15], [B5], H⟩ (by generalize p0 = qp0; cases qp0 <;> kernel_rfl) ?_
 refine Aq ⟨(L64 p0), [B5], H⟩ (by generalize p0 = qp0; cases qp0 <;> kernel_rfl) ?_
 refine Aq ⟨(L64 p0) ++ [E16], [B5], H⟩ (by generalize p0 = qp0; cases qp0 <;> kernel_rfl) ?_
 refine Aq ⟨(L64 p0) ++ [E16, E17], [B5], H⟩ (by generalize p0 = qp0; cases qp0 <;> kernel_rfl) ?_
 refine Fi (congrArg (fun q => (⟨[(0, vp q)] ++ L38 ++ [(38, vp q), E14, E15, (41, vp q), E16, E17], [B5], H⟩ : St)) h20) ?_
 refine ydk 2 ⟨L47 ++ [E18], [B5], H⟩ ?_
 refine Aq ⟨L54, [B5], H⟩ (Lb (X := X) (⟨L47 ++ [E18], [B5], H⟩ : St) 46 35 16 h24 i18 o19 (some 46) (by kernel_rfl) (by kernel_rfl) (by kernel_rfl) (by kernel_rfl)) ?_
 refine ydt ⟨L54 ++ [E19], [B5], H⟩ ?_
 refine Br ⟨L54 ++ [(47, vu v23), E19], [B5], H⟩ (Kq (X := X) (⟨L54 ++ [E19], [B5], H⟩ : St) 35 16 h24 V22 0 (fun q => .int .u32 q) (some 47) (by kernel_rfl) (by kernel_rfl) (by kernel_rfl) (by kernel_rfl) (by kernel_rfl) (by kernel_rfl)) ?_
 refine ydt ⟨L62, [B5], H⟩ ?_
 refine Br ⟨L62 ++ [(50, vN)], [B5], H26⟩ (yc (some 50) false false (⟨L62, [B5], H⟩ : St) (Bi H c25)) ?_
 exact yde
 exact ⟨H26, hF, (by kernel_rfl)⟩
 refine yF h17 ⟨(L50 p0), [B5], H⟩ ?_
 refine ysg ⟨(L50 p0) ++ [(51, vb (p1.Op_ == 26))], [B5], H⟩ ?_ (h := (by generalize p0 = qp0; cases qp0 <;> kernel_rfl))
 refine As (α := (Ah)) (fun x => (⟨[], [], x⟩ : St)) (fun x => I8 x = some Hr) ?_ ?_
 rintro H27 hF
 replace hF : I8 H27 = some Hr := hF
 unfold I8 at hF
 exact ⟨H27, hF, (by kernel_rfl)⟩
 rcases Ae hF with ⟨h28, hF⟩ | ⟨h28, hF⟩
 refine yT h28 ⟨(L42 p0), [B5], H⟩ ?_
 refine Ag ?_
 refine Ag ?_
 obtain ⟨i29, o30, h31, hF⟩ := Bu hF
 let E20 : EN := (0, vo i29 o30)
 let E25 : EN := (57, vo i29 o30)
 let L52 : List EN := [E20] ++ L38 ++ [(53, vo i29 o30), E23, E24, (56, vo i29 o30)]
 let L55 : List EN := [E20, (67, vo i29 o30), (68, vo i29 o30), (69, vo i29 (o30 + 16))]
 let L58 : List EN := L52 ++ [E25, (58, vo i29 (o30 + Int.toNat p1.A_))]
 let L66 : List EN := [E20, E21, (62, vo i29 o30), (63, vl 3 2), (64, vi p1.B_), (65, vu (IntKind.wrap .u32 p1.B_))]
 obtain ⟨x32, V33, hF⟩ := Ab hF
 replace V33 := Bb V33
 let W3 : Ah := Dt H i29 o30 (arM .u32 16 x32.R_ ++ [(.top, .int .u32 (IntKind.wrap .u32 (x32.PC_ + 4))), (.top, .int .u32 x32.EPC_), (.top, .int .u32 x32.Cause_), (.top, .int .i64 x32.State_), (.top, .int .i64 x32.Why_), (.top, .int .i64 x32.Steps_), (.top, .int .i64 x32.Taken_), ((.own 1), .sl 2 (List.map Ad x32.Out_)), (.top, .int .u32 x32.setup_.Entry_), (.top, .int .u32 x32.setup_.Vector_), (.top, .int .u32 x32.setup_.Guard_), (.top, .int .u32 x32.setup_.Limit_), ((.own 1), .sl 1 (List.map (eI .i32) x32.input_))])
 let L59 : List EN := L55 ++ [(70, vu x32.PC_), (71, vu (IntKind.wrap .u32 (x32.PC_ + 4))), (72, vo i29 o30), (73, vo i29 (o30 + 16))]
 obtain ⟨v34, h35, hF⟩ := Ab hF
 let E22 : EN := (61, vb (decide (v34 ≥ (IntKind.wrap .u32 p1.Imm_))))
 refine Bs (.take 0 (.take 1 (.take 2 (.take 3 (.take 4 (.take 5 (.take 6 (.take 7 (.take 8 .done))))))))) (by kernel_rfl) (⟨[E20, E21, E22], [B5], H⟩ : St) ?_ ?_
 refine Aq ⟨(L42 p0) ++ [(53, vp p0)], [B5], H⟩ (by generalize p0 = qp0; cases qp0 <;> kernel_rfl) ?_
 refine Aq ⟨(L42 p0) ++ [(53, vp p0), E23], [B5], H⟩ (by generalize p0 = qp0; cases qp0 <;> kernel_rfl) ?_
 refine Aq ⟨(L42 p0) ++ [(53, vp p0), E23, E24], [B5], H⟩ (by generalize p0 = qp0; cases qp0 <;> kernel_rfl) ?_
 refine Fi (congrArg (fun q => (⟨[(0, vp q)] ++ L38 ++ [(53, vp q), E23, E24], [B5], H⟩ : St)) h31) ?_
 refine ydk 2 ⟨L52 ++ [E25], [B5], H⟩ ?_
 refine Aq ⟨L58, [B5], H⟩ (Lb (X := X) (⟨L52 ++ [E25], [B5], H⟩ : St) 46 35 16 h35 i29 o30 (some 58) (by kernel_rfl) (by kernel_rfl) (by kernel_rfl) (by kernel_rfl)) ?_
 refine Aq ⟨L58 ++ [(59, vu v34)], [B5], H⟩ (Kq (X := X) (⟨L58, [B5], H⟩ : St) 35 16 h35 V33 0 (fun q => .int .u32 q) (some 59) (by kernel_rfl) (by kernel_rfl) (by kernel_rfl) (by kernel_rfl) (by kernel_rfl) (by kernel_rfl)) ?_
 refine ydk 2 ⟨L58 ++ [(59, vu v34), E26, E22], [B5], H⟩ ?_
 exact yde
 rcases Ae hF with ⟨h36, hF⟩ | ⟨h36, hF⟩
 refine yT h36 ⟨[E20, E21], [B5], H⟩ ?_
 refine Ag ?_
 obtain ⟨H38, c37, hF⟩ := Ab hF
 refine Aj ⟨[], [], H38⟩ ?_ ?_
 refine yr 4 ⟨L66, [B5], H⟩ ?_
 refine Ai ⟨L66 ++ [(66, vN)], [B5], H38⟩ (yc (some 66) false false (⟨L66, [B5], H⟩ : St) (F2 H c37)) ?_
 exact ye
 refine Au ?_
 obtain e0 := Am hF
 subst e0
 exact yi (vN)
 refine yF h36 ⟨[E20], [], H⟩ ?_
 refine Ao ?_
 obtain ⟨H39, h40, hF⟩ := Cl hF
 have V41 : Ct H39 i29 o30 29 = some (Bz (T_cpu_Cpu.mk x32.R_ (IntKind.wrap .u32 (x32.PC_ + 4)) x32.EPC_ x32.Cause_ x32.State_ x32.Why_ x32.Steps_ x32.Taken_ x32.Out_ x32.setup_ x32.input_)) := by rw [← h40]; exact Bv V33 rfl
 refine Aj ⟨[], [], H39⟩ ?_ ?_
 refine yr 3 ⟨L55, [], H⟩ ?_
 refine Ai ⟨L55 ++ [(70, vu x32.PC_)], [], H⟩ (yd (X := X) (⟨L55, [], H⟩ : St) 35 V33 16 1 false (vu x32.PC_) (some 70)) ?_
 refine yr 3 ⟨L59, [], H⟩ ?_
 refine Ai ⟨L59, [], W3⟩ (G7 (X := X) (lc := []) (h2 := W3) (⟨L59, [], H⟩ : St) 35 V33 16 1 (vu (IntKind.wrap .u32 (x32.PC_ + 4))) (by kernel_rfl) (by kernel_rfl) (by kernel_rfl) (by kernel_rfl) (by kernel_rfl) (by kernel_rfl) (Cd V33 (Nat.le_of_ble_eq_true rfl)) (by kernel_rfl)) ?_
 refine Bd (congrArg (fun q => (⟨L59, [], q⟩ : St)) h40) ?_
 exact ye
 exact ⟨H39, hF, (by kernel_rfl)⟩
 refine yF h28 ⟨(L45 p0) ++ [(9, vi p1.Op_)], [B5], H⟩ ?_
 refine ysg ⟨(L45 p0) ++ [(74, vb (p1.Op_ == 30))], [B5], H⟩ ?_ (h := (by generalize p0 = qp0; cases qp0 <;> kernel_rfl))
 refine As (α := (Ah)) (fun x => (⟨[], [], x⟩ : St)) (fun x => I9 x = some Hr) ?_ ?_
 rintro H42 hF
 replace hF : I9 H42 = some Hr := hF
 unfold I9 at hF
 exact ⟨H42, hF, (by kernel_rfl)⟩
 rcases Ae hF with ⟨h43, hF⟩ | ⟨h43, hF⟩
 refine yT h43 ⟨(L45 p0), [B5], H⟩ ?_
 refine Ag ?_
 obtain ⟨i44, o45, h46, hF⟩ := Bu hF
 let E27 : EN := (0, vo i44 o45)
 let E30 : EN := (83, vo i44 o45)
 let E31 : EN := (86, vo i44 o45)
 let E32 : EN := (87, vo i44 o45)
 let E35 : EN := (94, vo i44 o45)
 let E36 : EN := (95, vo i44 (o45 + 23))
 let L39 : List EN := [E27, E21, (76, vo i44 o45), (77, vo i44 o45), (78, vo i44 o45), (79, vo i44 (o45 + 23))]
 let L40 : List EN := [E28, E29, E30, (84, vl 3 1), (85, vi p1.A_)]
 let L41 : List EN := L40 ++ [E31, E32, (88, vo i44 (o45 + Int.toNat p1.A_))]
 let L56 : List EN := [E27, (96, vo i44 o45), (97, vo i44 o45), (98, vo i44 (o45 + 16))]
 obtain ⟨x47, V48, hF⟩ := Ab hF
 replace V48 := Bb V48
 let W1 : Ah := Dt H i44 o45 (arM .u32 16 x47.R_ ++ [(.top, .int .u32 x47.PC_), (.top, .int .u32 x47.EPC_), (.top, .int .u32 x47.Cause_), (.top, .int .i64 x47.State_), (.top, .int .i64 x47.Why_), (.top, .int .i64 x47.Steps_), (.top, .int .i64 x47.Taken_), (.top, .junk), (.top, .int .u32 x47.setup_.Entry_), (.top, .int .u32 x47.setup_.Vector_), (.top, .int .u32 x47.setup_.Guard_), (.top, .int .u32 x47.setup_.Limit_), ((.own 1), .sl 1 (List.map (eI .i32) x47.input_))])
 let L48 : List EN := L39 ++ [(80, .one (.own 1) (.sl 2 (List.map Ad x47.Out_)))]
 let L60 : List EN := L56 ++ [(99, vu x47.PC_), (100, vu (IntKind.wrap .u32 (x47.PC_ + 4))), (101, vo i44 o45), (102, vo i44 (o45 + 16))]
 obtain ⟨v49, h50, hF⟩ := Ab hF
 let E33 : EN := (89, vu v49)
 let E34 : EN := (90, .one .top (.int .i32 (IntKind.wrap .i32 v49)))
 let L43 : List EN := L41 ++ [E33, E34, (91, .agg [(.top, .int .i64 p1.Imm_), (.top, .int .i32 (IntKind.wrap .i32 v49))])]
 let L44 : List EN := L39 ++ [(80, .one .top .junk)] ++ L43 ++ [(92, .one .top .junk)]
 let L51 : List EN := L44 ++ [(93, .one .top .junk), E35, E36]
 let L57 : List EN := L43 ++ [(92, .one (.own 1) (.sl 2 (List.map Ad ([(T_api_Event.mk p1.Imm_ (IntKind.wrap .i32 v49))] : List T_api_Event))))]
 obtain ⟨v51, h52, hF⟩ := Ab hF
 let W2 : Ah := Dt H i44 o45 (arM .u32 16 x47.R_ ++ [(.top, .int .u32 x47.PC_), (.top, .int .u32 x47.EPC_), (.top, .int .u32 x47.Cause_), (.top, .int .i64 x47.State_), (.top, .int .i64 x47.Why_), (.top, .int .i64 x47.Steps_), (.top, .int .i64 x47.Taken_), ((.own 1), .sl 2 (List.map Ad v51)), (.top, .int .u32 x47.setup_.Entry_), (.top, .int .u32 x47.setup_.Vector_), (.top, .int .u32 x47.setup_.Guard_), (.top, .int .u32 x47.setup_.Limit_), ((.own 1), .sl 1 (List.map (eI .i32) x47.input_))])
 let L49 : List EN := L44 ++ [(93, .one (.own 1) (.sl 2 (List.map Ad v51)))]
 obtain ⟨H53, h54, hF⟩ := Cl hF
 let W4 : Ah := Dt H53 i44 o45 (arM .u32 16 x47.R_ ++ [(.top, .int .u32 (IntKind.wrap .u32 (x47.PC_ + 4))), (.top, .int .u32 x47.EPC_), (.top, .int .u32 x47.Cause_), (.top, .int .i64 x47.State_), (.top, .int .i64 x47.Why_), (.top, .int .i64 x47.Steps_), (.top, .int .i64 x47.Taken_), ((.own 1), .sl 2 (List.map Ad v51)), (.top, .int .u32 x47.setup_.Entry_), (.top, .int .u32 x47.setup_.Vector_), (.top, .int .u32 x47.setup_.Guard_), (.top, .int .u32 x47.setup_.Limit_), ((.own 1), .sl 1 (List.map (eI .i32) x47.input_))])
 have V55 : Ct H53 i44 o45 29 = some (Bz (T_cpu_Cpu.mk x47.R_ x47.PC_ x47.EPC_ x47.Cause_ x47.State_ x47.Why_ x47.Steps_ x47.Taken_ v51 x47.setup_ x47.input_)) := by rw [← h54]; exact Bv V48 rfl
 let K67 : Sch := .last 16 (.last 17 (.take 18 (.take 19 (.last 20 .done))))
 refine Bs (.take 0 (.take 1 (.take 2 (.take 3 (.take 5 (.take 6 (.take 7 (.take 8 (.take 9 (.take 10 (.take 11 (.take 12 (.alt 4 (.last 13 (.take 14 (.take 15 K67))) (.last 13 (.take 14 (.take 15 (.alt 4 K67 (.last 16 (.last 4 (.last 17 (.take 18 (.take 19 (.last 20 .done))))))))))))))))))))))) (by kernel_rfl) (⟨[E27], [], H53⟩ : St) ?_ ?_
 refine Aq ⟨(L45 p0) ++ [(76, vp p0)], [B5], H⟩ (by generalize p0 = qp0; cases qp0 <;> kernel_rfl) ?_
 refine Aq ⟨(L45 p0) ++ [(76, vp p0), (77, vp p0)], [B5], H⟩ (by generalize p0 = qp0; cases qp0 <;> kernel_rfl) ?_
 refine Fi (congrArg (fun q => (⟨[(0, vp q), E21, (76, vp q), (77, vp q)], [B5], H⟩ : St)) h46) ?_
 refine ydk 9 ⟨L39 ++ L40 ++ [E31, E32], [B5], H⟩ ?_
 refine Aq ⟨L39 ++ L41, [B5], H⟩ (Lb (X := X) (⟨L39 ++ L40 ++ [E31, E32], [B5], H⟩ : St) 46 35 16 h50 i44 o45 (some 88) (by kernel_rfl) (by kernel_rfl) (by kernel_rfl) (by kernel_rfl)) ?_
 refine kC (⟨L51, [B5], W2⟩ : St) ?_ ?_
 refine P4 ⟨L48 ++ L41, [B5], W1⟩ (fY (X := X) (h2 := W1) (⟨L39 ++ L41, [B5], H⟩ : St) 47 V48 23 1 false (.one (.own 1) (.sl 2 (List.map Ad x47.Out_))) (some 80) (by kernel_rfl) (by kernel_rfl) (by kernel_rfl) (by kernel_rfl) (by kernel_rfl) (Cd V48 (Nat.le_of_ble_eq_true rfl)) (by kernel_rfl)) ?_ ?_
 refine Cb ⟨L48 ++ L41 ++ [E33], [B5], W1⟩ (Kq (X := X) (⟨L48 ++ L41, [B5], W1⟩ : St) 35 16 h50 (Bv V48 rfl) 0 (fun q => .int .u32 q) (some 89) (by kernel_rfl) (by kernel_rfl) (by kernel_rfl) (by kernel_rfl) (by kernel_rfl) (by kernel_rfl)) ?_
 refine yqt ⟨L48 ++ L41 ++ [E33, E34], [B5], W1⟩ ?_
 refine yqt ⟨L48 ++ L43, [B5], W1⟩ ?_
 refine yql ⟨L48 ++ L57, [B5], W1⟩ ?_
 refine Cb ⟨L49, [B5], W1⟩ (Gu (X := X) (⟨L44, [B5], W1⟩ : St) 16 h52 47 47 67 2 0 [(.top, .int .i64 0), (.top, .int .i32 0)] (.own 1) Ad 0 (some 93) (by kernel_rfl) (by kernel_rfl) (by kernel_rfl) (by kernel_rfl) (by kernel_rfl) (by kernel_rfl) (by kernel_rfl) (by kernel_rfl) (by kernel_rfl) (fun _ => rfl) (by kernel_rfl)) ?_
 refine yqt ⟨L49 ++ [E35], [B5], W1⟩ ?_
 refine yqt ⟨L49 ++ [E35, E36], [B5], W1⟩ ?_
 refine Cb ⟨L51, [B5], W2⟩ (G7 (X := X) (lc := [3]) (h2 := W2) (⟨L51, [B5], W1⟩ : St) 47 (Bv V48 rfl) 23 1 (.one (.own 1) (.sl 2 (List.map Ad v51))) (by kernel_rfl) (by kernel_rfl) (by kernel_rfl) (by kernel_rfl) (by kernel_rfl) (by kernel_rfl) (Lw V48 rfl (Nat.le_of_ble_eq_true rfl)) (by kernel_rfl)) ?_
 exact yqe
 refine Cb ⟨L39 ++ L41 ++ [E33], [B5], H⟩ (Kq (X := X) (⟨L39 ++ L41, [B5], H⟩ : St) 35 16 h50 V48 0 (fun q => .int .u32 q) (some 89) (by kernel_rfl) (by kernel_rfl) (by kernel_rfl) (by kernel_rfl) (by kernel_rfl) (by kernel_rfl)) ?_
 refine yqt ⟨L39 ++ L41 ++ [E33, E34], [B5], H⟩ ?_
 refine yqt ⟨L39 ++ L43, [B5], H⟩ ?_
 refine P4 ⟨L48 ++ L43, [B5], W1⟩ (fY (X := X) (h2 := W1) (⟨L39 ++ L43, [B5], H⟩ : St) 47 V48 23 1 false (.one (.own 1) (.sl 2 (List.map Ad x47.Out_))) (some 80) (by kernel_rfl) (by kernel_rfl) (by kernel_rfl) (by kernel_rfl) (by kernel_rfl) (Cd V48 (Nat.le_of_ble_eq_true rfl)) (by kernel_rfl)) ?_ ?_
 refine yql ⟨L48 ++ L57, [B5], W1⟩ ?_
 refine Cb ⟨L49, [B5], W1⟩ (Gu (X := X) (⟨L44, [B5], W1⟩ : St) 16 h52 47 47 67 2 0 [(.top, .int .i64 0), (.top, .int .i32 0)] (.own 1) Ad 0 (some 93) (by kernel_rfl) (by kernel_rfl) (by kernel_rfl) (by kernel_rfl) (by kernel_rfl) (by kernel_rfl) (by kernel_rfl) (by kernel_rfl) (by kernel_rfl) (fun _ => rfl) (by kernel_rfl)) ?_
 refine yqt ⟨L49 ++ [E35], [B5], W1⟩ ?_
 refine yqt ⟨L49 ++ [E35, E36], [B5], W1⟩ ?_
 refine Cb ⟨L51, [B5], W2⟩ (G7 (X := X) (lc := [3]) (h2 := W2) (⟨L51, [B5], W1⟩ : St) 47 (Bv V48 rfl) 23 1 (.one (.own 1) (.sl 2 (List.map Ad v51))) (by kernel_rfl) (by kernel_rfl) (by kernel_rfl) (by kernel_rfl) (by kernel_rfl) (by kernel_rfl) (Lw V48 rfl (Nat.le_of_ble_eq_true rfl)) (by kernel_rfl)) ?_
 exact yqe
 refine yql ⟨L39 ++ L57, [B5], H⟩ ?_
 refine Cb ⟨L48 ++ L57, [B5], W1⟩ (fY (X := X) (h2 := W1) (⟨L39 ++ L57, [B5], H⟩ : St) 47 V48 23 1 false (.one (.own 1) (.sl 2 (List.map Ad x47.Out_))) (some 80) (by kernel_rfl) (by kernel_rfl) (by kernel_rfl) (by kernel_rfl) (by kernel_rfl) (Cd V48 (Nat.le_of_ble_eq_true rfl)) (by kernel_rfl)) ?_
 refine Cb ⟨L49, [B5], W1⟩ (Gu (X := X) (⟨L44, [B5], W1⟩ : St) 16 h52 47 47 67 2 0 [(.top, .int .i64 0), (.top, .int .i32 0)] (.own 1) Ad 0 (some 93) (by kernel_rfl) (by kernel_rfl) (by kernel_rfl) (by kernel_rfl) (by kernel_rfl) (by kernel_rfl) (by kernel_rfl) (by kernel_rfl) (by kernel_rfl) (fun _ => rfl) (by kernel_rfl)) ?_
 refine yqt ⟨L49 ++ [E35], [B5], W1⟩ ?_
 refine yqt ⟨L49 ++ [E35, E36], [B5], W1⟩ ?_
 refine Cb ⟨L51, [B5], W2⟩ (G7 (X := X) (lc := [3]) (h2 := W2) (⟨L51, [B5], W1⟩ : St) 47 (Bv V48 rfl) 23 1 (.one (.own 1) (.sl 2 (List.map Ad v51))) (by kernel_rfl) (by kernel_rfl) (by kernel_rfl) (by kernel_rfl) (by kernel_rfl) (by kernel_rfl) (Lw V48 rfl (Nat.le_of_ble_eq_true rfl)) (by kernel_rfl)) ?_
 exact yqe
 refine lZ (congrArg (fun q => (⟨L51, [B5], q⟩ : St)) h54) ?_
 kernel_rfl
 obtain ⟨H56, h57, hF⟩ := Cl hF
 have V58 : Ct H56 i44 o45 29 = some (Bz (T_cpu_Cpu.mk x47.R_ (IntKind.wrap .u32 (x47.PC_ + 4)) x47.EPC_ x47.Cause_ x47.State_ x47.Why_ x47.Steps_ x47.Taken_ v51 x47.setup_ x47.input_)) := by rw [← h57]; exact Bv V55 rfl
 refine Aj ⟨[], [], H56⟩ ?_ ?_
 refine yr 3 ⟨L56, [], H53⟩ ?_
 refine Ai ⟨L56 ++ [(99, vu x47.PC_)], [], H53⟩ (yd (X := X) (⟨L56, [], H53⟩ : St) 35 V55 16 1 false (vu x47.PC_) (some 99)) ?_
 refine yr 3 ⟨L60, [], H53⟩ ?_
 refine Ai ⟨L60, [], W4⟩ (G7 (X := X) (lc := []) (h2 := W4) (⟨L60, [], H53⟩ : St) 35 V55 16 1 (vu (IntKind.wrap .u32 (x47.PC_ + 4))) (by kernel_rfl) (by kernel_rfl) (by kernel_rfl) (by kernel_rfl) (by kernel_rfl) (by kernel_rfl) (Cd V55 (Nat.le_of_ble_eq_true rfl)) (by kernel_rfl)) ?_
 refine Bd (congrArg (fun q => (⟨L60, [], q⟩ : St)) h57) ?_
 exact ye
 exact ⟨H56, hF, (by kernel_rfl)⟩
 refine yF h43 ⟨(L45 p0), [B5], H⟩ ?_
 obtain ⟨H60, c59, hF⟩ := Ab hF
 refine Aj ⟨[], [], H60⟩ ?_ ?_
 refine yr 2 ⟨(L45 p0) ++ [(10, vp p0), E37], [B5], H⟩ ?_ (h := (by generalize p0 = qp0; cases qp0 <;> kernel_rfl))
 refine Ai ⟨(L45 p0) ++ [(10, vp p0), E37, (12, vN)], [B5], H60⟩ (yc (some 12) false false (⟨(L45 p0) ++ [(10, vp p0), E37], [B5], H⟩ : St) (Tv H c59) (hr := (by generalize p0 = qp0; cases qp0 <;> kernel_rfl)) (hs := (by generalize p0 = qp0; cases qp0 <;> kernel_rfl))) ?_
 exact ye
 exact ⟨H60, hF, (by kernel_rfl)⟩
noncomputable def Fe (H : Ah) (p0 : Ptr) (p1 : Bool) (p2 : Int) : Option (Ah) :=
  if p1 = true then ((p0).bnd fun i2 o3 =>
  Af (Bf H i2 o3) fun x5 =>
  bnd (Bl H i2 o3 (T_cpu_Cpu.mk x5.R_ (IntKind.wrap .u32 (x5.PC_ + 4)) x5.EPC_ x5.Cause_ x5.State_ x5.Why_ x5.Steps_ x5.Taken_ x5.Out_ x5.setup_ x5.input_)) fun H7 =>
  some H7)
  else (Af (C3 H p0 p2) fun H11 =>
  some H11)
theorem Mw (H : Ah) {p0 : Ptr} {p1 : Bool} {p2 : Int} {Hr : Ah} (hF : Fe H p0 p1 p2 = some Hr) : evS X 129 [.one .top (Ptr.av p0), .one .top (.bool p1), .one .top (.int .u32 p2)] H = some (.tup [], Hr) := by
 let E2 : Ptr → EN := fun z0 => (0, vp z0)
 let L5 : Ptr → List EN := fun z0 => [(E2 z0), (2, vu p2), (14, vp z0), (15, vu p2)]
 refine yf Try.func129 false ⟨[(E2 p0), (1, vb p1), (2, vu p2)], [], H⟩ ?_
 unfold Fe at hF
 refine Ag ?_
 refine ysg ⟨[(E2 p0), (2, vu p2), (6, vb p1)], [], H⟩ ?_ (h := (by generalize p0 = qp0; cases qp0 <;> kernel_rfl))
 rcases Ae hF with ⟨h1, hF⟩ | ⟨h1, hF⟩
 refine yT h1 ⟨[(E2 p0)], [], H⟩ ?_
 refine Ag ?_
 obtain ⟨i2, o3, h4, hF⟩ := Bu hF
 let L3 : List EN := [(0, vo i2 o3), (7, vo i2 o3), (8, vo i2 o3), (9, vo i2 (o3 + 16))]
 obtain ⟨x5, V6, hF⟩ := Ab hF
 replace V6 := Bb V6
 let W1 : Ah := Dt H i2 o3 (arM .u32 16 x5.R_ ++ [(.top, .int .u32 (IntKind.wrap .u32 (x5.PC_ + 4))), (.top, .int .u32 x5.EPC_), (.top, .int .u32 x5.Cause_), (.top, .int .i64 x5.State_), (.top, .int .i64 x5.Why_), (.top, .int .i64 x5.Steps_), (.top, .int .i64 x5.Taken_), ((.own 1), .sl 2 (List.map Ad x5.Out_)), (.top, .int .u32 x5.setup_.Entry_), (.top, .int .u32 x5.setup_.Vector_), (.top, .int .u32 x5.setup_.Guard_), (.top, .int .u32 x5.setup_.Limit_), ((.own 1), .sl 1 (List.map (eI .i32) x5.input_))])
 let L4 : List EN := L3 ++ [(10, vu x5.PC_), (11, vu (IntKind.wrap .u32 (x5.PC_ + 4))), (12, vo i2 o3), (13, vo i2 (o3 + 16))]
 obtain ⟨H7, h8, hF⟩ := Cl hF
 have V9 : Ct H7 i2 o3 29 = some (Bz (T_cpu_Cpu.mk x5.R_ (IntKind.wrap .u32 (x5.PC_ + 4)) x5.EPC_ x5.Cause_ x5.State_ x5.Why_ x5.Steps_ x5.Taken_ x5.Out_ x5.setup_ x5.input_)) := by rw [← h8]; exact Bv V6 rfl
 refine Aj ⟨[], [], H7⟩ ?_ ?_
 refine yr 1 ⟨[(E2 p0), (7, vp p0)], [], H⟩ ?_ (h := (by generalize p0 = qp0; cases qp0 <;> kernel_rfl))
 refine Bd (congrArg (fun q => (⟨[(0, vp q), (7, vp q)], [], H⟩ : St)) h4) ?_
 refine yr 1 ⟨[(0, vo i2 o3), (7, vo i2 o3), (8, vo i2 o3)], [], H⟩ ?_
 refine yr 1 ⟨L3, [], H⟩ ?_
 refine Ai ⟨L3 ++ [(10, vu x5.PC_)], [], H⟩ (yd (X := X) (⟨L3, [], H⟩ : St) 35 V6 16 1 false (vu x5.PC_) (some 10)) ?_
 refine yr 3 ⟨L4, [], H⟩ ?_
 refine Ai ⟨L4, [], W1⟩ (G7 (X := X) (lc := []) (h2 := W1) (⟨L4, [], H⟩ : St) 35 V6 16 1 (vu (IntKind.wrap .u32 (x5.PC_ + 4))) (by kernel_rfl) (by kernel_rfl) (by kernel_rfl) (by kernel_rfl) (by kernel_rfl) (by kernel_rfl) (Cd V6 (Nat.le_of_ble_eq_true rfl)) (by kernel_rfl)) ?_
 refine Bd (congrArg (fun q => (⟨L4, [], q⟩ : St)) h8) ?_
 exact ye
 refine Au ?_
 obtain e0 := Am hF
 subst e0
 exact yi (vN)
 refine yF h1 ⟨[(E2 p0), (2, vu p2)], [], H⟩ ?_
 refine Ao ?_
 obtain ⟨H11, c10, hF⟩ := Ab hF
 refine Aj ⟨[], [], H11⟩ ?_ ?_
 refine yr 2 ⟨(L5 p0), [], H⟩ ?_ (h := (by generalize p0 = qp0; cases qp0 <;> kernel_rfl))
 refine Ai ⟨(L5 p0) ++ [(16, vN)], [], H11⟩ (yc (some 16) false false (⟨(L5 p0), [], H⟩ : St) (F2 H c10) (hr := (by generalize p0 = qp0; cases qp0 <;> kernel_rfl)) (hs := (by generalize p0 = qp0; cases qp0 <;> kernel_rfl))) ?_
 exact ye
 obtain e0 := Am hF
 subst e0
 exact yi (vN)
noncomputable def Ja (H1 : Ah) : Option (Ah) :=
  some H1
noncomputable def Jb (H11 : Ah) : Option (Ah) :=
  Ja H11
noncomputable def Jc (H23 : Ah) : Option (Ah) :=
  Jb H23
noncomputable def Jd (H38 : Ah) : Option (Ah) :=
  Jc H38
noncomputable def Je (H49 : Ah) : Option (Ah) :=
  Jd H49
noncomputable def Jf (H53 : Ah) : Option (Ah) :=
  Je H53
noncomputable def Jg (H64 : Ah) : Option (Ah) :=
  Jf H64
noncomputable def Cp (H : Ah) (p0 : Ptr) (p1 : T_instr_Instr) : Option (Ah) :=
  if (p1.Op_ == 1) = true then ((p0).bnd fun i3 o4 =>
  Af (Bf H i3 o4) fun x6 =>
  bnd (Bl H i3 o4 (T_cpu_Cpu.mk x6.R_ x6.PC_ x6.EPC_ x6.Cause_ 1 x6.Why_ x6.Steps_ x6.Taken_ x6.Out_ x6.setup_ x6.input_)) fun H8 =>
  Ja H8)
  else (if (p1.Op_ == 24) = true then ((p0).bnd fun i13 o14 =>
  Af (Bf H i13 o14) fun x16 =>
  Af (ga x16.R_ p1.A_) fun v18 =>
  bnd (Bl H i13 o14 (T_cpu_Cpu.mk x16.R_ v18 x16.EPC_ x16.Cause_ x16.State_ x16.Why_ x16.Steps_ x16.Taken_ x16.Out_ x16.setup_ x16.input_)) fun H20 =>
  Jb H20)
  else (if (p1.Op_ == 25) = true then ((p0).bnd fun i25 o26 =>
  Af (Bf H i25 o26) fun x28 =>
  Af (ga x28.R_ p1.A_) fun v30 =>
  bnd (Bl H i25 o26 (T_cpu_Cpu.mk (Ij [(x28.R_.g 0), (x28.R_.g 1), (x28.R_.g 2), (x28.R_.g 3), (x28.R_.g 4), (x28.R_.g 5), (x28.R_.g 6), (x28.R_.g 7), (x28.R_.g 8), (x28.R_.g 9), (x28.R_.g 10), (x28.R_.g 11), (x28.R_.g 12), (x28.R_.g 13), (IntKind.wrap .u32 (x28.PC_ + 4)), (x28.R_.g 15)] : Arr 16 Int) x28.PC_ x28.EPC_ x28.Cause_ x28.State_ x28.Why_ x28.Steps_ x28.Taken_ x28.Out_ x28.setup_ x28.input_)) fun H32 =>
  bnd (Bl H32 i25 o26 (T_cpu_Cpu.mk (Ij [(x28.R_.g 0), (x28.R_.g 1), (x28.R_.g 2), (x28.R_.g 3), (x28.R_.g 4), (x28.R_.g 5), (x28.R_.g 6), (x28.R_.g 7), (x28.R_.g 8), (x28.R_.g 9), (x28.R_.g 10), (x28.R_.g 11), (x28.R_.g 12), (x28.R_.g 13), (IntKind.wrap .u32 (x28.PC_ + 4)), (x28.R_.g 15)] : Arr 16 Int) v30 x28.EPC_ x28.Cause_ x28.State_ x28.Why_ x28.Steps_ x28.Taken_ x28.Out_ x28.setup_ x28.input_)) fun H35 =>
  Jc H35)
  else (if (p1.Op_ == 27) = true then ((p0).bnd fun i40 o41 =>
  Af (Bf H i40 o41) fun x43 =>
  Af (ga x43.R_ p1.A_) fun v45 =>
  Af (Fe H (Ptr.at i40 o41) (v45 != 0) 2) fun H48 =>
  Jd H48)
  else (if (p1.Op_ == 28) = true then (Af (C3 H p0 (IntKind.wrap .u32 p1.Imm_)) fun H52 =>
  Je H52)
  else (if (p1.Op_ == 29) = true then ((p0).bnd fun i55 o56 =>
  Af (Bf H i55 o56) fun x58 =>
  Af (ga x58.R_ p1.A_) fun v60 =>
  Af (C3 H (Ptr.at i55 o56) v60) fun H63 =>
  Jf H63)
  else (if (p1.Op_ == 31) = true then ((p0).bnd fun i66 o67 =>
  Af (Bf H i66 o67) fun x69 =>
  if (decide (x69.Taken_ ≥ (x69.input_.length : Int))) = true then (Af (C3 H (Ptr.at i66 o67) 7) fun H73 =>
  some H73)
  else (bnd (Bl H i66 o67 (T_cpu_Cpu.mk x69.R_ x69.PC_ x69.EPC_ x69.Cause_ x69.State_ x69.Why_ x69.Steps_ (IntKind.wrap .i64 (x69.Taken_ + 1)) x69.Out_ x69.setup_ x69.input_)) fun H74 =>
  Af (gi x69.input_ (IntKind.wrap .i64 ((IntKind.wrap .i64 (x69.Taken_ + 1)) - 1))) fun x77 =>
  Af (Bh H74 (Ptr.at i66 o67) p1.A_ (IntKind.wrap .u32 x77)) fun H80 =>
  Jg H80))
  else ((p0).bnd fun i81 o82 =>
  Af (Bf H i81 o82) fun x84 =>
  Af (ga x84.R_ p1.A_) fun v86 =>
  Af (Fe H (Ptr.at i81 o82) (decide ((IntKind.wrap .i32 v86) ≥ (IntKind.wrap .i32 x84.setup_.Limit_))) 5) fun H89 =>
  Jg H89)))))))
theorem Wd (H : Ah) {p0 : Ptr} {p1 : T_instr_Instr} {Hr : Ah} (hF : Cp H p0 p1 = some Hr) : evS X 106 [.one .top (Ptr.av p0), .agg (Ap p1)] H = some (.tup [], Hr) := by
 let B7 : EB := (3, (Ap p1))
 let E8 : Ptr → EN := fun z0 => (31, vp z0)
 let E9 : EN := (33, vl 3 1)
 let E10 : EN := (34, vi p1.A_)
 let E11 : EN := (3, vl 3 0)
 let E13 : EN := (44, vl 3 1)
 let E14 : EN := (45, vi p1.A_)
 let E21 : Ptr → EN := fun z0 => (65, vp z0)
 let E22 : EN := (67, vl 3 1)
 let E23 : EN := (68, vi p1.A_)
 let E27 : Ptr → EN := fun z0 => (84, vp z0)
 let E28 : EN := (86, vl 3 1)
 let E29 : EN := (87, vi p1.A_)
 let E42 : EN := (9, vl 3 1)
 let E43 : EN := (10, vi p1.A_)
 let L49 : Ptr → List EN := fun z0 => [(0, vp z0), E11]
 let L59 : Ptr → List EN := fun z0 => (L49 z0) ++ [(6, vi p1.Op_)]
 let L83 : Ptr → List EN := fun z0 => (L49 z0) ++ [(77, vp z0), (78, vl 3 4), (79, vi p1.Imm_), (80, vu (IntKind.wrap .u32 p1.Imm_))]
 refine yf Try.func106 false ⟨[(0, vp p0), (1, .agg (Ap p1))], [], H⟩ ?_
 unfold Cp at hF
 refine ysg ⟨(L49 p0), [B7], H⟩ ?_ (h := (by generalize p0 = qp0; cases qp0 <;> kernel_rfl))
 refine ysg ⟨(L59 p0), [B7], H⟩ ?_ (h := (by generalize p0 = qp0; cases qp0 <;> kernel_rfl))
 refine Bt ?_
 refine ysg ⟨(L59 p0) ++ [(24, vb (p1.Op_ == 1))], [B7], H⟩ ?_ (h := (by generalize p0 = qp0; cases qp0 <;> kernel_rfl))
 refine As (α := (Ah)) (fun x => (⟨[], [], x⟩ : St)) (fun x => Ja x = some Hr) ?_ ?_
 rintro H1 hF
 replace hF : Ja H1 = some Hr := hF
 unfold Ja at hF
 obtain e0 := Am hF
 subst e0
 exact yi (vN)
 rcases Ae hF with ⟨h2, hF⟩ | ⟨h2, hF⟩
 refine yT h2 ⟨[(0, vp p0)], [], H⟩ ?_
 obtain ⟨i3, o4, h5, hF⟩ := Bu hF
 let L80 : List EN := [(0, vo i3 o4), (26, vo i3 o4), (27, vo i3 o4), (28, vo i3 (o4 + 19))]
 obtain ⟨x6, V7, hF⟩ := Ab hF
 replace V7 := Bb V7
 let W5 : Ah := Dt H i3 o4 (arM .u32 16 x6.R_ ++ [(.top, .int .u32 x6.PC_), (.top, .int .u32 x6.EPC_), (.top, .int .u32 x6.Cause_), (.top, .int .i64 1), (.top, .int .i64 x6.Why_), (.top, .int .i64 x6.Steps_), (.top, .int .i64 x6.Taken_), ((.own 1), .sl 2 (List.map Ad x6.Out_)), (.top, .int .u32 x6.setup_.Entry_), (.top, .int .u32 x6.setup_.Vector_), (.top, .int .u32 x6.setup_.Guard_), (.top, .int .u32 x6.setup_.Limit_), ((.own 1), .sl 1 (List.map (eI .i32) x6.input_))])
 obtain ⟨H8, h9, hF⟩ := Cl hF
 have V10 : Ct H8 i3 o4 29 = some (Bz (T_cpu_Cpu.mk x6.R_ x6.PC_ x6.EPC_ x6.Cause_ 1 x6.Why_ x6.Steps_ x6.Taken_ x6.Out_ x6.setup_ x6.input_)) := by rw [← h9]; exact Bv V7 rfl
 refine Aj ⟨[], [], H8⟩ ?_ ?_
 refine yr 1 ⟨[(0, vp p0), (26, vp p0)], [], H⟩ ?_ (h := (by generalize p0 = qp0; cases qp0 <;> kernel_rfl))
 refine Bd (congrArg (fun q => (⟨[(0, vp q), (26, vp q)], [], H⟩ : St)) h5) ?_
 refine yr 1 ⟨[(0, vo i3 o4), (26, vo i3 o4), (27, vo i3 o4)], [], H⟩ ?_
 refine yr 1 ⟨L80, [], H⟩ ?_
 refine Ai ⟨L80, [], W5⟩ (G7 (X := X) (lc := []) (h2 := W5) (⟨L80, [], H⟩ : St) 3 V7 19 1 (vi 1) (by kernel_rfl) (by kernel_rfl) (by kernel_rfl) (by kernel_rfl) (by kernel_rfl) (by kernel_rfl) (Cd V7 (Nat.le_of_ble_eq_true rfl)) (by kernel_rfl)) ?_
 refine Bd (congrArg (fun q => (⟨L80, [], q⟩ : St)) h9) ?_
 exact ye
 exact ⟨H8, hF, (by kernel_rfl)⟩
 refine yF h2 ⟨(L59 p0), [B7], H⟩ ?_
 refine ysg ⟨(L59 p0) ++ [(29, vb (p1.Op_ == 24))], [B7], H⟩ ?_ (h := (by generalize p0 = qp0; cases qp0 <;> kernel_rfl))
 refine As (α := (Ah)) (fun x => (⟨[], [], x⟩ : St)) (fun x => Jb x = some Hr) ?_ ?_
 rintro H11 hF
 replace hF : Jb H11 = some Hr := hF
 unfold Jb at hF
 exact ⟨H11, hF, (by kernel_rfl)⟩
 rcases Ae hF with ⟨h12, hF⟩ | ⟨h12, hF⟩
 refine yT h12 ⟨(L49 p0), [B7], H⟩ ?_
 obtain ⟨i13, o14, h15, hF⟩ := Bu hF
 let E12 : EN := (36, vo i13 o14)
 let L63 : List EN := [(0, vo i13 o14), E11, (31, vo i13 o14), (32, vo i13 o14), E9, E10, (35, vo i13 o14)]
 let L68 : List EN := L63 ++ [E12, (37, vo i13 (o14 + Int.toNat p1.A_))]
 obtain ⟨x16, V17, hF⟩ := Ab hF
 replace V17 := Bb V17
 obtain ⟨v18, h19, hF⟩ := Ab hF
 let W4 : Ah := Dt H i13 o14 (arM .u32 16 x16.R_ ++ [(.top, .int .u32 v18), (.top, .int .u32 x16.EPC_), (.top, .int .u32 x16.Cause_), (.top, .int .i64 x16.State_), (.top, .int .i64 x16.Why_), (.top, .int .i64 x16.Steps_), (.top, .int .i64 x16.Taken_), ((.own 1), .sl 2 (List.map Ad x16.Out_)), (.top, .int .u32 x16.setup_.Entry_), (.top, .int .u32 x16.setup_.Vector_), (.top, .int .u32 x16.setup_.Guard_), (.top, .int .u32 x16.setup_.Limit_), ((.own 1), .sl 1 (List.map (eI .i32) x16.input_))])
 let L79 : List EN := L68 ++ [(38, vu v18), (39, vo i13 o14), (40, vo i13 (o14 + 16))]
 obtain ⟨H20, h21, hF⟩ := Cl hF
 have V22 : Ct H20 i13 o14 29 = some (Bz (T_cpu_Cpu.mk x16.R_ v18 x16.EPC_ x16.Cause_ x16.State_ x16.Why_ x16.Steps_ x16.Taken_ x16.Out_ x16.setup_ x16.input_)) := by rw [← h21]; exact Bv V17 rfl
 refine Bs (.take 0 (.take 1 (.take 2 (.take 3 (.take 4 (.take 5 (.take 6 (.last 7 (.take 8 (.take 9 (.last 10 .done))))))))))) (by kernel_rfl) (⟨[], [], H20⟩ : St) ?_ ?_
 refine Aq ⟨(L49 p0) ++ [(E8 p0)], [B7], H⟩ (by generalize p0 = qp0; cases qp0 <;> kernel_rfl) ?_
 refine Aq ⟨(L49 p0) ++ [(E8 p0), (32, vp p0)], [B7], H⟩ (by generalize p0 = qp0; cases qp0 <;> kernel_rfl) ?_
 refine Aq ⟨(L49 p0) ++ [(E8 p0), (32, vp p0), E9], [B7], H⟩ (by generalize p0 = qp0; cases qp0 <;> kernel_rfl) ?_
 refine Aq ⟨(L49 p0) ++ [(E8 p0), (32, vp p0), E9, E10], [B7], H⟩ (by generalize p0 = qp0; cases qp0 <;> kernel_rfl) ?_
 refine Fi (congrArg (fun q => (⟨[(0, vp q), E11, (31, vp q), (32, vp q), E9, E10], [B7], H⟩ : St)) h15) ?_
 refine ydk 2 ⟨L63 ++ [E12], [B7], H⟩ ?_
 refine Aq ⟨L68, [B7], H⟩ (Lb (X := X) (⟨L63 ++ [E12], [B7], H⟩ : St) 46 35 16 h19 i13 o14 (some 37) (by kernel_rfl) (by kernel_rfl) (by kernel_rfl) (by kernel_rfl)) ?_
 refine Br ⟨L68 ++ [(38, vu v18)], [B7], H⟩ (Kq (X := X) (⟨L68, [B7], H⟩ : St) 35 16 h19 V17 0 (fun q => .int .u32 q) (some 38) (by kernel_rfl) (by kernel_rfl) (by kernel_rfl) (by kernel_rfl) (by kernel_rfl) (by kernel_rfl)) ?_
 refine ydk 2 ⟨L79, [B7], H⟩ ?_
 refine Br ⟨L79, [B7], W4⟩ (G7 (X := X) (lc := [3]) (h2 := W4) (⟨L79, [B7], H⟩ : St) 35 V17 16 1 (vu v18) (by kernel_rfl) (by kernel_rfl) (by kernel_rfl) (by kernel_rfl) (by kernel_rfl) (by kernel_rfl) (Cd V17 (Nat.le_of_ble_eq_true rfl)) (by kernel_rfl)) ?_
 refine Fi (congrArg (fun q => (⟨L79, [B7], q⟩ : St)) h21) ?_
 exact yde
 exact ⟨H20, hF, (by kernel_rfl)⟩
 refine yF h12 ⟨(L59 p0), [B7], H⟩ ?_
 refine ysg ⟨(L59 p0) ++ [(41, vb (p1.Op_ == 25))], [B7], H⟩ ?_ (h := (by generalize p0 = qp0; cases qp0 <;> kernel_rfl))
 refine As (α := (Ah)) (fun x => (⟨[], [], x⟩ : St)) (fun x => Jc x = some Hr) ?_ ?_
 rintro H23 hF
 replace hF : Jc H23 = some Hr := hF
 unfold Jc at hF
 exact ⟨H23, hF, (by kernel_rfl)⟩
 rcases Ae hF with ⟨h24, hF⟩ | ⟨h24, hF⟩
 refine yT h24 ⟨(L49 p0), [B7], H⟩ ?_
 refine Ag ?_
 obtain ⟨i25, o26, h27, hF⟩ := Bu hF
 let E15 : EN := (0, vo i25 o26)
 let E16 : EN := (48, vo i25 (o26 + Int.toNat p1.A_))
 let E17 : EN := (50, vo i25 o26)
 let E18 : EN := (51, vo i25 o26)
 let L66 : List EN := [(56, vo i25 o26), (57, vo i25 o26)]
 let L71 : List EN := [(43, vo i25 o26), E13, E14, (46, vo i25 o26)]
 let L76 : List EN := [E15, E11] ++ L71 ++ [(47, vo i25 o26)]
 obtain ⟨x28, V29, hF⟩ := Ab hF
 replace V29 := Bb V29
 let W1 : Ah := Dt H i25 o26 (arM .u32 14 x28.R_ ++ [(.top, .int .u32 (IntKind.wrap .u32 (x28.PC_ + 4))), (.top, .int .u32 (x28.R_.g 15)), (.top, .int .u32 x28.PC_), (.top, .int .u32 x28.EPC_), (.top, .int .u32 x28.Cause_), (.top, .int .i64 x28.State_), (.top, .int .i64 x28.Why_), (.top, .int .i64 x28.Steps_), (.top, .int .i64 x28.Taken_), ((.own 1), .sl 2 (List.map Ad x28.Out_)), (.top, .int .u32 x28.setup_.Entry_), (.top, .int .u32 x28.setup_.Vector_), (.top, .int .u32 x28.setup_.Guard_), (.top, .int .u32 x28.setup_.Limit_), ((.own 1), .sl 1 (List.map (eI .i32) x28.input_))])
 let E19 : EN := (54, vu x28.PC_)
 let E20 : EN := (55, vu (IntKind.wrap .u32 (x28.PC_ + 4)))
 obtain ⟨v30, h31, hF⟩ := Ab hF
 let L56 : List EN := [E15, (4, vu v30)]
 let L64 : List EN := L56 ++ [E17, E18, (52, vo i25 o26), (53, vo i25 (o26 + 16))]
 let L78 : List EN := L64 ++ [E19, E20] ++ L66 ++ [(58, vo i25 (o26 + 14))]
 let L81 : List EN := L56 ++ [(59, vo i25 o26), (60, vu v30), (61, vo i25 o26), (62, vo i25 (o26 + 16))]
 refine Bs (.take 0 (.take 1 (.take 2 (.take 3 (.take 4 (.take 5 (.take 6 (.take 7 .done)))))))) (by kernel_rfl) (⟨L56, [], H⟩ : St) ?_ ?_
 refine Aq ⟨(L49 p0) ++ [(43, vp p0)], [B7], H⟩ (by generalize p0 = qp0; cases qp0 <;> kernel_rfl) ?_
 refine Aq ⟨(L49 p0) ++ [(43, vp p0), E13], [B7], H⟩ (by generalize p0 = qp0; cases qp0 <;> kernel_rfl) ?_
 refine Aq ⟨(L49 p0) ++ [(43, vp p0), E13, E14], [B7], H⟩ (by generalize p0 = qp0; cases qp0 <;> kernel_rfl) ?_
 refine Fi (congrArg (fun q => (⟨[(0, vp q), E11, (43, vp q), E13, E14], [B7], H⟩ : St)) h27) ?_
 refine ydk 2 ⟨L76, [B7], H⟩ ?_
 refine Aq ⟨L76 ++ [E16], [B7], H⟩ (Lb (X := X) (⟨L76, [B7], H⟩ : St) 46 35 16 h31 i25 o26 (some 48) (by kernel_rfl) (by kernel_rfl) (by kernel_rfl) (by kernel_rfl)) ?_
 refine Aq ⟨L76 ++ [E16, (49, vu v30)], [B7], H⟩ (Kq (X := X) (⟨L76 ++ [E16], [B7], H⟩ : St) 35 16 h31 V29 0 (fun q => .int .u32 q) (some 49) (by kernel_rfl) (by kernel_rfl) (by kernel_rfl) (by kernel_rfl) (by kernel_rfl) (by kernel_rfl)) ?_
 refine ydt ⟨[E15, E11, (4, vu v30)] ++ L71 ++ [(47, vo i25 o26), E16, (49, vu v30)], [B7], H⟩ ?_
 exact yde
 refine Ag ?_
 obtain ⟨H32, h33, hF⟩ := Cl hF
 let W2 : Ah := Dt H32 i25 o26 (arM .u32 14 x28.R_ ++ [(.top, .int .u32 (IntKind.wrap .u32 (x28.PC_ + 4))), (.top, .int .u32 (x28.R_.g 15)), (.top, .int .u32 v30), (.top, .int .u32 x28.EPC_), (.top, .int .u32 x28.Cause_), (.top, .int .i64 x28.State_), (.top, .int .i64 x28.Why_), (.top, .int .i64 x28.Steps_), (.top, .int .i64 x28.Taken_), ((.own 1), .sl 2 (List.map Ad x28.Out_)), (.top, .int .u32 x28.setup_.Entry_), (.top, .int .u32 x28.setup_.Vector_), (.top, .int .u32 x28.setup_.Guard_), (.top, .int .u32 x28.setup_.Limit_), ((.own 1), .sl 1 (List.map (eI .i32) x28.input_))])
 have V34 : Ct H32 i25 o26 29 = some (Bz (T_cpu_Cpu.mk (Ij [(x28.R_.g 0), (x28.R_.g 1), (x28.R_.g 2), (x28.R_.g 3), (x28.R_.g 4), (x28.R_.g 5), (x28.R_.g 6), (x28.R_.g 7), (x28.R_.g 8), (x28.R_.g 9), (x28.R_.g 10), (x28.R_.g 11), (x28.R_.g 12), (x28.R_.g 13), (IntKind.wrap .u32 (x28.PC_ + 4)), (x28.R_.g 15)] : Arr 16 Int) x28.PC_ x28.EPC_ x28.Cause_ x28.State_ x28.Why_ x28.Steps_ x28.Taken_ x28.Out_ x28.setup_ x28.input_)) := by rw [← h33]; exact Bv V29 rfl
 refine Bs (.take 0 (.take 1 (.take 2 (.take 3 (.take 6 (.take 7 (.last 4 (.take 5 (.take 8 (.last 9 .done)))))))))) (by kernel_rfl) (⟨L56, [], H32⟩ : St) ?_ ?_
 refine ydk 6 ⟨L64 ++ L66, [], H⟩ ?_
 refine Br ⟨L64 ++ [E19] ++ L66, [], H⟩ (yd (X := X) (⟨L64 ++ L66, [], H⟩ : St) 35 V29 16 1 false (vu x28.PC_) (some 54)) ?_
 refine ydk 2 ⟨L78, [], H⟩ ?_
 refine Br ⟨L78, [], W1⟩ (G7 (X := X) (lc := []) (h2 := W1) (⟨L78, [], H⟩ : St) 35 V29 14 1 (vu (IntKind.wrap .u32 (x28.PC_ + 4))) (by kernel_rfl) (by kernel_rfl) (by kernel_rfl) (by kernel_rfl) (by kernel_rfl) (by kernel_rfl) (Cd V29 (Nat.le_of_ble_eq_true rfl)) (by kernel_rfl)) ?_
 refine Fi (congrArg (fun q => (⟨L78, [], q⟩ : St)) h33) ?_
 exact yde
 obtain ⟨H35, h36, hF⟩ := Cl hF
 have V37 : Ct H35 i25 o26 29 = some (Bz (T_cpu_Cpu.mk (Ij [(x28.R_.g 0), (x28.R_.g 1), (x28.R_.g 2), (x28.R_.g 3), (x28.R_.g 4), (x28.R_.g 5), (x28.R_.g 6), (x28.R_.g 7), (x28.R_.g 8), (x28.R_.g 9), (x28.R_.g 10), (x28.R_.g 11), (x28.R_.g 12), (x28.R_.g 13), (IntKind.wrap .u32 (x28.PC_ + 4)), (x28.R_.g 15)] : Arr 16 Int) v30 x28.EPC_ x28.Cause_ x28.State_ x28.Why_ x28.Steps_ x28.Taken_ x28.Out_ x28.setup_ x28.input_)) := by rw [← h36]; exact Bv V34 rfl
 refine Aj ⟨[], [], H35⟩ ?_ ?_
 refine yr 4 ⟨L81, [], H32⟩ ?_
 refine Ai ⟨L81, [], W2⟩ (G7 (X := X) (lc := []) (h2 := W2) (⟨L81, [], H32⟩ : St) 35 V34 16 1 (vu v30) (by kernel_rfl) (by kernel_rfl) (by kernel_rfl) (by kernel_rfl) (by kernel_rfl) (by kernel_rfl) (Cd V34 (Nat.le_of_ble_eq_true rfl)) (by kernel_rfl)) ?_
 refine Bd (congrArg (fun q => (⟨L81, [], q⟩ : St)) h36) ?_
 exact ye
 exact ⟨H35, hF, (by kernel_rfl)⟩
 refine yF h24 ⟨(L59 p0), [B7], H⟩ ?_
 refine ysg ⟨(L59 p0) ++ [(63, vb (p1.Op_ == 27))], [B7], H⟩ ?_ (h := (by generalize p0 = qp0; cases qp0 <;> kernel_rfl))
 refine As (α := (Ah)) (fun x => (⟨[], [], x⟩ : St)) (fun x => Jd x = some Hr) ?_ ?_
 rintro H38 hF
 replace hF : Jd H38 = some Hr := hF
 unfold Jd at hF
 exact ⟨H38, hF, (by kernel_rfl)⟩
 rcases Ae hF with ⟨h39, hF⟩ | ⟨h39, hF⟩
 refine yT h39 ⟨(L49 p0), [B7], H⟩ ?_
 obtain ⟨i40, o41, h42, hF⟩ := Bu hF
 let E24 : EN := (70, vo i40 o41)
 let L65 : List EN := [(0, vo i40 o41), E11, (65, vo i40 o41), (66, vo i40 o41), E22, E23, (69, vo i40 o41)]
 let L73 : List EN := L65 ++ [E24, (71, vo i40 (o41 + Int.toNat p1.A_))]
 obtain ⟨x43, V44, hF⟩ := Ab hF
 replace V44 := Bb V44
 obtain ⟨v45, h46, hF⟩ := Ab hF
 let E25 : EN := (72, vu v45)
 let E26 : EN := (73, vb (v45 != 0))
 obtain ⟨H48, c47, hF⟩ := Ab hF
 refine Bs (.take 0 (.take 1 (.take 2 (.take 3 (.take 4 (.take 5 (.take 6 (.last 7 (.take 8 (.last 9 .done)))))))))) (by kernel_rfl) (⟨[], [], H48⟩ : St) ?_ ?_
 refine Aq ⟨(L49 p0) ++ [(E21 p0)], [B7], H⟩ (by generalize p0 = qp0; cases qp0 <;> kernel_rfl) ?_
 refine Aq ⟨(L49 p0) ++ [(E21 p0), (66, vp p0)], [B7], H⟩ (by generalize p0 = qp0; cases qp0 <;> kernel_rfl) ?_
 refine Aq ⟨(L49 p0) ++ [(E21 p0), (66, vp p0), E22], [B7], H⟩ (by generalize p0 = qp0; cases qp0 <;> kernel_rfl) ?_
 refine Aq ⟨(L49 p0) ++ [(E21 p0), (66, vp p0), E22, E23], [B7], H⟩ (by generalize p0 = qp0; cases qp0 <;> kernel_rfl) ?_
 refine Fi (congrArg (fun q => (⟨[(0, vp q), E11, (65, vp q), (66, vp q), E22, E23], [B7], H⟩ : St)) h42) ?_
 refine ydk 2 ⟨L65 ++ [E24], [B7], H⟩ ?_
 refine Aq ⟨L73, [B7], H⟩ (Lb (X := X) (⟨L65 ++ [E24], [B7], H⟩ : St) 46 35 16 h46 i40 o41 (some 71) (by kernel_rfl) (by kernel_rfl) (by kernel_rfl) (by kernel_rfl)) ?_
 refine Br ⟨L73 ++ [E25], [B7], H⟩ (Kq (X := X) (⟨L73, [B7], H⟩ : St) 35 16 h46 V44 0 (fun q => .int .u32 q) (some 72) (by kernel_rfl) (by kernel_rfl) (by kernel_rfl) (by kernel_rfl) (by kernel_rfl) (by kernel_rfl)) ?_
 refine ydt ⟨L73 ++ [E25, E26], [B7], H⟩ ?_
 refine Br ⟨L73 ++ [E25, E26, (74, vN)], [B7], H48⟩ (yc (some 74) false false (⟨L73 ++ [E25, E26], [B7], H⟩ : St) (Mw H c47)) ?_
 exact yde
 exact ⟨H48, hF, (by kernel_rfl)⟩
 refine yF h39 ⟨(L59 p0), [B7], H⟩ ?_
 refine ysg ⟨(L59 p0) ++ [(75, vb (p1.Op_ == 28))], [B7], H⟩ ?_ (h := (by generalize p0 = qp0; cases qp0 <;> kernel_rfl))
 refine As (α := (Ah)) (fun x => (⟨[], [], x⟩ : St)) (fun x => Je x = some Hr) ?_ ?_
 rintro H49 hF
 replace hF : Je H49 = some Hr := hF
 unfold Je at hF
 exact ⟨H49, hF, (by kernel_rfl)⟩
 rcases Ae hF with ⟨h50, hF⟩ | ⟨h50, hF⟩
 refine yT h50 ⟨(L49 p0), [B7], H⟩ ?_
 obtain ⟨H52, c51, hF⟩ := Ab hF
 refine Aj ⟨[], [], H52⟩ ?_ ?_
 refine yr 4 ⟨(L83 p0), [B7], H⟩ ?_ (h := (by generalize p0 = qp0; cases qp0 <;> kernel_rfl))
 refine Ai ⟨(L83 p0) ++ [(81, vN)], [B7], H52⟩ (yc (some 81) false false (⟨(L83 p0), [B7], H⟩ : St) (F2 H c51) (hr := (by generalize p0 = qp0; cases qp0 <;> kernel_rfl)) (hs := (by generalize p0 = qp0; cases qp0 <;> kernel_rfl))) ?_
 exact ye
 exact ⟨H52, hF, (by kernel_rfl)⟩
 refine yF h50 ⟨(L59 p0), [B7], H⟩ ?_
 refine ysg ⟨(L59 p0) ++ [(82, vb (p1.Op_ == 29))], [B7], H⟩ ?_ (h := (by generalize p0 = qp0; cases qp0 <;> kernel_rfl))
 refine As (α := (Ah)) (fun x => (⟨[], [], x⟩ : St)) (fun x => Jf x = some Hr) ?_ ?_
 rintro H53 hF
 replace hF : Jf H53 = some Hr := hF
 unfold Jf at hF
 exact ⟨H53, hF, (by kernel_rfl)⟩
 rcases Ae hF with ⟨h54, hF⟩ | ⟨h54, hF⟩
 refine yT h54 ⟨(L49 p0), [B7], H⟩ ?_
 obtain ⟨i55, o56, h57, hF⟩ := Bu hF
 let E30 : EN := (89, vo i55 o56)
 let L69 : List EN := [(0, vo i55 o56), E11, (84, vo i55 o56), (85, vo i55 o56), E28, E29, (88, vo i55 o56)]
 let L75 : List EN := L69 ++ [E30, (90, vo i55 (o56 + Int.toNat p1.A_))]
 obtain ⟨x58, V59, hF⟩ := Ab hF
 replace V59 := Bb V59
 obtain ⟨v60, h61, hF⟩ := Ab hF
 obtain ⟨H63, c62, hF⟩ := Ab hF
 refine Bs (.take 0 (.take 1 (.take 2 (.take 3 (.take 4 (.take 5 (.take 6 (.last 7 (.last 8 .done))))))))) (by kernel_rfl) (⟨[], [], H63⟩ : St) ?_ ?_
 refine Aq ⟨(L49 p0) ++ [(E27 p0)], [B7], H⟩ (by generalize p0 = qp0; cases qp0 <;> kernel_rfl) ?_
 refine Aq ⟨(L49 p0) ++ [(E27 p0), (85, vp p0)], [B7], H⟩ (by generalize p0 = qp0; cases qp0 <;> kernel_rfl) ?_
 refine Aq ⟨(L49 p0) ++ [(E27 p0), (85, vp p0), E28], [B7], H⟩ (by generalize p0 = qp0; cases qp0 <;> kernel_rfl) ?_
 refine Aq ⟨(L49 p0) ++ [(E27 p0), (85, vp p0), E28, E29], [B7], H⟩ (by generalize p0 = qp0; cases qp0 <;> kernel_rfl) ?_
 refine Fi (congrArg (fun q => (⟨[(0, vp q), E11, (84, vp q), (85, vp q), E28, E29], [B7], H⟩ : St)) h57) ?_
 refine ydk 2 ⟨L69 ++ [E30], [B7], H⟩ ?_
 refine Aq ⟨L75, [B7], H⟩ (Lb (X := X) (⟨L69 ++ [E30], [B7], H⟩ : St) 46 35 16 h61 i55 o56 (some 90) (by kernel_rfl) (by kernel_rfl) (by kernel_rfl) (by kernel_rfl)) ?_
 refine Br ⟨L75 ++ [(91, vu v60)], [B7], H⟩ (Kq (X := X) (⟨L75, [B7], H⟩ : St) 35 16 h61 V59 0 (fun q => .int .u32 q) (some 91) (by kernel_rfl) (by kernel_rfl) (by kernel_rfl) (by kernel_rfl) (by kernel_rfl) (by kernel_rfl)) ?_
 refine Br ⟨L75 ++ [(91, vu v60), (92, vN)], [B7], H63⟩ (yc (some 92) false false (⟨L75 ++ [(91, vu v60)], [B7], H⟩ : St) (F2 H c62)) ?_
 exact yde
 exact ⟨H63, hF, (by kernel_rfl)⟩
 refine yF h54 ⟨(L59 p0), [B7], H⟩ ?_
 refine ysg ⟨(L49 p0) ++ [(93, vb (p1.Op_ == 31))], [B7], H⟩ ?_ (h := (by generalize p0 = qp0; cases qp0 <;> kernel_rfl))
 refine As (α := (Ah)) (fun x => (⟨[], [], x⟩ : St)) (fun x => Jg x = some Hr) ?_ ?_
 rintro H64 hF
 replace hF : Jg H64 = some Hr := hF
 unfold Jg at hF
 exact ⟨H64, hF, (by kernel_rfl)⟩
 rcases Ae hF with ⟨h65, hF⟩ | ⟨h65, hF⟩
 refine yT h65 ⟨(L49 p0), [B7], H⟩ ?_
 refine Ag ?_
 refine Ag ?_
 obtain ⟨i66, o67, h68, hF⟩ := Bu hF
 let E33 : EN := (99, vo i66 o67)
 let E36 : EN := (0, vo i66 o67)
 let E37 : EN := (105, vo i66 o67)
 let E38 : EN := (114, vo i66 o67)
 let E39 : EN := (121, vo i66 o67)
 let L48 : List EN := [E36, E11]
 let L50 : List EN := L48 ++ [E38, (115, vl 3 1), (116, vi p1.A_), (117, vo i66 o67)]
 let L51 : List EN := L50 ++ [(118, vo i66 o67), (119, vo i66 (o67 + 28))]
 let L54 : List EN := [E39, (122, vo i66 o67), (123, vo i66 (o67 + 22))]
 let L62 : List EN := L48 ++ [(95, vo i66 o67), (96, vo i66 o67), (97, vo i66 (o67 + 22))]
 let L72 : List EN := L48 ++ [(107, vo i66 o67), (108, vo i66 o67), (109, vo i66 (o67 + 22))]
 obtain ⟨x69, V70, hF⟩ := Ab hF
 replace V70 := Bb V70
 let W3 : Ah := Dt H i66 o67 (arM .u32 16 x69.R_ ++ [(.top, .int .u32 x69.PC_), (.top, .int .u32 x69.EPC_), (.top, .int .u32 x69.Cause_), (.top, .int .i64 x69.State_), (.top, .int .i64 x69.Why_), (.top, .int .i64 x69.Steps_), (.top, .int .i64 (IntKind.wrap .i64 (x69.Taken_ + 1))), ((.own 1), .sl 2 (List.map Ad x69.Out_)), (.top, .int .u32 x69.setup_.Entry_), (.top, .int .u32 x69.setup_.Vector_), (.top, .int .u32 x69.setup_.Guard_), (.top, .int .u32 x69.setup_.Limit_), ((.own 1), .sl 1 (List.map (eI .i32) x69.input_))])
 let E31 : EN := (104, vb (decide (x69.Taken_ ≥ (x69.input_.length : Int))))
 let E32 : EN := (98, vi x69.Taken_)
 let E34 : EN := (102, .one .bh (.sl 1 (List.map (eI .i32) x69.input_)))
 let E35 : EN := (103, vi (x69.input_.length : Int))
 let E40 : EN := (124, vi (IntKind.wrap .i64 (x69.Taken_ + 1)))
 let L57 : List EN := L54 ++ [E40, (125, vi (IntKind.wrap .i64 ((IntKind.wrap .i64 (x69.Taken_ + 1)) - 1)))]
 let L58 : List EN := L51 ++ [(120, .one .bh (.sl 1 (List.map (eI .i32) x69.input_)))]
 let L74 : List EN := L62 ++ [E32, E33, (100, vo i66 o67), (101, vo i66 (o67 + 28))]
 let L82 : List EN := L72 ++ [(110, vi x69.Taken_), (111, vi (IntKind.wrap .i64 (x69.Taken_ + 1))), (112, vo i66 o67), (113, vo i66 (o67 + 22))]
 refine Bs (.take 0 (.take 1 (.take 2 (.take 3 (.take 4 (.take 5 (.take 6 (.take 7 (.take 8 (.take 9 .done)))))))))) (by kernel_rfl) (⟨L48 ++ [E31], [B7], H⟩ : St) ?_ ?_
 refine Aq ⟨(L49 p0) ++ [(95, vp p0)], [B7], H⟩ (by generalize p0 = qp0; cases qp0 <;> kernel_rfl) ?_
 refine Fi (congrArg (fun q => (⟨[(0, vp q), E11, (95, vp q)], [B7], H⟩ : St)) h68) ?_
 refine ydk 2 ⟨L62, [B7], H⟩ ?_
 refine Aq ⟨L62 ++ [E32], [B7], H⟩ (yd (X := X) (⟨L62, [B7], H⟩ : St) 3 V70 22 1 false (vi x69.Taken_) (some 98)) ?_
 refine ydk 3 ⟨L74, [B7], H⟩ ?_
 refine Aq ⟨L74 ++ [E34], [B7], H⟩ (yd (X := X) (⟨L74, [B7], H⟩ : St) 48 V70 28 1 false (.one .bh (.sl 1 (List.map (eI .i32) x69.input_))) (some 102)) ?_
 refine Aq ⟨L74 ++ [E34, E35], [B7], H⟩ (yl (⟨L74 ++ [E34], [B7], H⟩ : St) x69.input_ (eI .i32) (some 103)) ?_
 refine ydt ⟨L74 ++ [E34, E35, E31], [B7], H⟩ ?_
 exact yde
 rcases Ae hF with ⟨h71, hF⟩ | ⟨h71, hF⟩
 refine yT h71 ⟨[E36], [], H⟩ ?_
 refine Ag ?_
 obtain ⟨H73, c72, hF⟩ := Ab hF
 refine Aj ⟨[], [], H73⟩ ?_ ?_
 refine yr 1 ⟨[E36, E37], [], H⟩ ?_
 refine Ai ⟨[E36, E37, (106, vN)], [], H73⟩ (yc (some 106) false false (⟨[E36, E37], [], H⟩ : St) (F2 H c72)) ?_
 exact ye
 refine Au ?_
 obtain e0 := Am hF
 subst e0
 exact yi (vN)
 refine yF h71 ⟨L48, [B7], H⟩ ?_
 refine Ao ?_
 refine Ag ?_
 obtain ⟨H74, h75, hF⟩ := Cl hF
 have V76 : Ct H74 i66 o67 29 = some (Bz (T_cpu_Cpu.mk x69.R_ x69.PC_ x69.EPC_ x69.Cause_ x69.State_ x69.Why_ x69.Steps_ (IntKind.wrap .i64 (x69.Taken_ + 1)) x69.Out_ x69.setup_ x69.input_)) := by rw [← h75]; exact Bv V70 rfl
 refine Aj ⟨L48, [B7], H74⟩ ?_ ?_
 refine yr 3 ⟨L72, [B7], H⟩ ?_
 refine Ai ⟨L72 ++ [(110, vi x69.Taken_)], [B7], H⟩ (yd (X := X) (⟨L72, [B7], H⟩ : St) 3 V70 22 1 false (vi x69.Taken_) (some 110)) ?_
 refine yr 3 ⟨L82, [B7], H⟩ ?_
 refine Ai ⟨L82, [B7], W3⟩ (G7 (X := X) (lc := []) (h2 := W3) (⟨L82, [B7], H⟩ : St) 3 V70 22 1 (vi (IntKind.wrap .i64 (x69.Taken_ + 1))) (by kernel_rfl) (by kernel_rfl) (by kernel_rfl) (by kernel_rfl) (by kernel_rfl) (by kernel_rfl) (Cd V70 (Nat.le_of_ble_eq_true rfl)) (by kernel_rfl)) ?_
 refine Bd (congrArg (fun q => (⟨L82, [B7], q⟩ : St)) h75) ?_
 exact ye
 obtain ⟨x77, h78, hF⟩ := Ab hF
 let E6 : EN := (128, vu (IntKind.wrap .u32 x77))
 let E41 : EN := (127, .one .top (.int .i32 x77))
 let L67 : List EN := L58 ++ L57 ++ [(126, .one .top (.rd .bh .bh [.int .i32 x77] 0))]
 let L77 : List EN := L67 ++ [E41, E6]
 let L84 : List EN := L51 ++ [(120, .one .top .junk)] ++ L57 ++ [(126, .one .top .junk), E41, E6, (129, vN)]
 obtain ⟨H80, c79, hF⟩ := Ab hF
 let K85 : Sch := .take 12 (.last 13 (.take 14 (.last 15 .done)))
 refine Bs (.take 0 (.take 1 (.take 2 (.take 3 (.take 4 (.take 5 (.take 7 (.take 8 (.take 9 (.alt 6 (.last 10 (.take 11 K85)) (.last 10 (.take 11 (.last 6 K85))))))))))))) (by kernel_rfl) (⟨[], [], H80⟩ : St) ?_ ?_
 refine ydk 9 ⟨L51 ++ L54, [B7], H74⟩ ?_
 refine kC (⟨L84, [B7], H80⟩ : St) ?_ ?_
 refine P4 ⟨L58 ++ L54, [B7], H74⟩ (yd (X := X) (⟨L51 ++ L54, [B7], H74⟩ : St) 48 V76 28 1 false (.one .bh (.sl 1 (List.map (eI .i32) x69.input_))) (some 120)) ?_ ?_
 refine Cb ⟨L58 ++ L54 ++ [E40], [B7], H74⟩ (yd (X := X) (⟨L58 ++ L54, [B7], H74⟩ : St) 3 V76 22 1 false (vi (IntKind.wrap .i64 (x69.Taken_ + 1))) (some 124)) ?_
 refine yqt ⟨L58 ++ L57, [B7], H74⟩ ?_
 refine Tt ⟨L67, [B7], H74⟩ (P5 (X := X) (⟨L58 ++ L57, [B7], H74⟩ : St) 48 21 1 h78 (eI .i32) .bh (some 126) (by kernel_rfl) (by kernel_rfl) (by kernel_rfl) (by kernel_rfl)) ?_
 refine yql ⟨L67 ++ [E41], [B7], H74⟩ ?_
 refine yqt ⟨L77, [B7], H74⟩ ?_
 refine Cb ⟨L84, [B7], H80⟩ (yc (some 129) false false (⟨L77, [B7], H74⟩ : St) (Bi H74 c79)) ?_
 exact yqe
 refine Cb ⟨L51 ++ L54 ++ [E40], [B7], H74⟩ (yd (X := X) (⟨L51 ++ L54, [B7], H74⟩ : St) 3 V76 22 1 false (vi (IntKind.wrap .i64 (x69.Taken_ + 1))) (some 124)) ?_
 refine yqt ⟨L51 ++ L57, [B7], H74⟩ ?_
 refine Cb ⟨L58 ++ L57, [B7], H74⟩ (yd (X := X) (⟨L51 ++ L57, [B7], H74⟩ : St) 48 V76 28 1 false (.one .bh (.sl 1 (List.map (eI .i32) x69.input_))) (some 120)) ?_
 refine Tt ⟨L67, [B7], H74⟩ (P5 (X := X) (⟨L58 ++ L57, [B7], H74⟩ : St) 48 21 1 h78 (eI .i32) .bh (some 126) (by kernel_rfl) (by kernel_rfl) (by kernel_rfl) (by kernel_rfl)) ?_
 refine yql ⟨L67 ++ [E41], [B7], H74⟩ ?_
 refine yqt ⟨L77, [B7], H74⟩ ?_
 refine Cb ⟨L84, [B7], H80⟩ (yc (some 129) false false (⟨L77, [B7], H74⟩ : St) (Bi H74 c79)) ?_
 exact yqe
 kernel_rfl
 exact ⟨H80, hF, (by kernel_rfl)⟩
 refine yF h65 ⟨(L49 p0), [B7], H⟩ ?_
 obtain ⟨i81, o82, h83, hF⟩ := Bu hF
 let E44 : EN := (12, vo i81 o82)
 let E45 : EN := (16, vo i81 o82)
 let E46 : EN := (17, vo i81 o82)
 let L52 : List EN := [(0, vo i81 o82), E11, (7, vo i81 o82), (8, vo i81 o82), E42, E43, (11, vo i81 o82)]
 let L53 : List EN := L52 ++ [E44, (13, vo i81 (o82 + Int.toNat p1.A_))]
 let L55 : List EN := [E45, E46, (18, vo i81 (o82 + 24)), (19, vo i81 (o82 + 27))]
 obtain ⟨x84, V85, hF⟩ := Ab hF
 replace V85 := Bb V85
 let E47 : EN := (20, vu x84.setup_.Limit_)
 let L61 : List EN := L55 ++ [E47, (21, .one .top (.int .i32 (IntKind.wrap .i32 x84.setup_.Limit_)))]
 obtain ⟨v86, h87, hF⟩ := Ab hF
 let L60 : List EN := L53 ++ [(14, vu v86), (15, .one .top (.int .i32 (IntKind.wrap .i32 v86)))]
 let L70 : List EN := L60 ++ L61 ++ [(22, vb (decide ((IntKind.wrap .i32 v86) ≥ (IntKind.wrap .i32 x84.setup_.Limit_))))]
 obtain ⟨H89, c88, hF⟩ := Ab hF
 refine Bs (.take 0 (.take 1 (.take 2 (.take 3 (.take 4 (.take 5 (.take 6 (.take 9 (.take 10 (.take 11 (.take 12 (.alt 7 (.take 8 (.last 13 (.take 14 (.take 15 (.last 16 .done))))) (.last 13 (.take 14 (.last 7 (.take 8 (.take 15 (.last 16 .done)))))))))))))))))) (by kernel_rfl) (⟨[], [], H89⟩ : St) ?_ ?_
 refine Aq ⟨(L49 p0) ++ [(7, vp p0)], [B7], H⟩ (by generalize p0 = qp0; cases qp0 <;> kernel_rfl) ?_
 refine Aq ⟨(L49 p0) ++ [(7, vp p0), (8, vp p0)], [B7], H⟩ (by generalize p0 = qp0; cases qp0 <;> kernel_rfl) ?_
 refine Aq ⟨(L49 p0) ++ [(7, vp p0), (8, vp p0), E42], [B7], H⟩ (by generalize p0 = qp0; cases qp0 <;> kernel_rfl) ?_
 refine Aq ⟨(L49 p0) ++ [(7, vp p0), (8, vp p0), E42, E43], [B7], H⟩ (by generalize p0 = qp0; cases qp0 <;> kernel_rfl) ?_
 refine Fi (congrArg (fun q => (⟨[(0, vp q), E11, (7, vp q), (8, vp q), E42, E43], [B7], H⟩ : St)) h83) ?_
 refine ydk 2 ⟨L52 ++ [E44], [B7], H⟩ ?_
 refine Aq ⟨L53, [B7], H⟩ (Lb (X := X) (⟨L52 ++ [E44], [B7], H⟩ : St) 46 35 16 h87 i81 o82 (some 13) (by kernel_rfl) (by kernel_rfl) (by kernel_rfl) (by kernel_rfl)) ?_
 refine ydk 4 ⟨L53 ++ L55, [B7], H⟩ ?_
 refine kC (⟨L70 ++ [(23, vN)], [B7], H89⟩ : St) ?_ ?_
 refine P4 ⟨L53 ++ [(14, vu v86)] ++ L55, [B7], H⟩ (Kq (X := X) (⟨L53 ++ L55, [B7], H⟩ : St) 35 16 h87 V85 0 (fun q => .int .u32 q) (some 14) (by kernel_rfl) (by kernel_rfl) (by kernel_rfl) (by kernel_rfl) (by kernel_rfl) (by kernel_rfl)) ?_ ?_
 refine yqt ⟨L60 ++ L55, [B7], H⟩ ?_
 refine Cb ⟨L60 ++ L55 ++ [E47], [B7], H⟩ (yd (X := X) (⟨L60 ++ L55, [B7], H⟩ : St) 35 V85 27 1 false (vu x84.setup_.Limit_) (some 20)) ?_
 refine yqt ⟨L60 ++ L61, [B7], H⟩ ?_
 refine yqt ⟨L70, [B7], H⟩ ?_
 refine Cb ⟨L70 ++ [(23, vN)], [B7], H89⟩ (yc (some 23) false false (⟨L70, [B7], H⟩ : St) (Mw H c88)) ?_
 exact yqe
 refine Cb ⟨L53 ++ L55 ++ [E47], [B7], H⟩ (yd (X := X) (⟨L53 ++ L55, [B7], H⟩ : St) 35 V85 27 1 false (vu x84.setup_.Limit_) (some 20)) ?_
 refine yqt ⟨L53 ++ L61, [B7], H⟩ ?_
 refine Cb ⟨L53 ++ [(14, vu v86)] ++ L61, [B7], H⟩ (Kq (X := X) (⟨L53 ++ L61, [B7], H⟩ : St) 35 16 h87 V85 0 (fun q => .int .u32 q) (some 14) (by kernel_rfl) (by kernel_rfl) (by kernel_rfl) (by kernel_rfl) (by kernel_rfl) (by kernel_rfl)) ?_
 refine yqt ⟨L60 ++ L61, [B7], H⟩ ?_
 refine yqt ⟨L70, [B7], H⟩ ?_
 refine Cb ⟨L70 ++ [(23, vN)], [B7], H89⟩ (yc (some 23) false false (⟨L70, [B7], H⟩ : St) (Mw H c88)) ?_
 exact yqe
 kernel_rfl
 exact ⟨H89, hF, (by kernel_rfl)⟩
noncomputable def Ce (i1 : Nat) (o2 : Nat) (H28 : Ah) : Option (Ah × Int) :=
  Af (Bf H28 i1 o2) fun x29 =>
  some (H28, x29.State_)
noncomputable def Jh (i1 : Nat) (o2 : Nat) (H35 : Ah) : Option (Ah × Int) :=
  Ce i1 o2 H35
noncomputable def Ji (i1 : Nat) (o2 : Nat) (H40 : Ah) : Option (Ah × Int) :=
  Jh i1 o2 H40
noncomputable def Jj (H7 : Ah) (i1 : Nat) (o2 : Nat) (r18 : T_instr_Instr) (j39 : Bool) : Option (Ah × Int) :=
  if j39 = true then (Af (Cr H7 (Ptr.at i1 o2) r18) fun H43 =>
  Ji i1 o2 H43)
  else (Af (Cp H7 (Ptr.at i1 o2) r18) fun H45 =>
  Ji i1 o2 H45)
noncomputable def El (H7 : Ah) (i1 : Nat) (o2 : Nat) (p1 : Ptr) (r18 : T_instr_Instr) (r26 : Int) (j34 : Bool) : Option (Ah × Int) :=
  if j34 = true then (Af (Bj H7 (Ptr.at i1 o2) p1 r18) fun H38 =>
  Jh i1 o2 H38)
  else (if (r26 == 2) = true then (Jj H7 i1 o2 r18 (r26 == 2))
  else (Jj H7 i1 o2 r18 (r26 == 4)))
noncomputable def Df (H7 : Ah) (i1 : Nat) (o2 : Nat) (p1 : Ptr) (r18 : T_instr_Instr) (r26 : Int) (j48 : Bool) : Option (Ah × Int) :=
  El H7 i1 o2 p1 r18 r26 j48
noncomputable def Fb (H : Ah) (p0 : Ptr) (p1 : Ptr) : Option (Ah × Int) :=
  (p0).bnd fun i1 o2 =>
  Af (Bf H i1 o2) fun x4 =>
  if (x4.State_ != 0) = true then (some (H, x4.State_))
  else (bnd (Bl H i1 o2 (T_cpu_Cpu.mk x4.R_ x4.PC_ x4.EPC_ x4.Cause_ x4.State_ x4.Why_ (IntKind.wrap .i64 (x4.Steps_ + 1)) x4.Taken_ x4.Out_ x4.setup_ x4.input_)) fun H7 =>
  Cc (Hf H7 p1 x4.PC_) fun r10 r11 =>
  if (r11 != 0) = true then (Af (Bq H7 (Ptr.at i1 o2) r11) fun H15 =>
  Af (Bf H15 i1 o2) fun x16 =>
  some (H15, x16.State_))
  else (Cc (Km r10) fun r18 r19 =>
  if (r19 != 0) = true then (Af (Bq H7 (Ptr.at i1 o2) r19) fun H23 =>
  Af (Bf H23 i1 o2) fun x24 =>
  some (H23, x24.State_))
  else (Af (D7 r18.Op_) fun r26 =>
  if (r26 == 5) = true then (Af (Bc H7 (Ptr.at i1 o2) r18) fun H33 =>
  Ce i1 o2 H33)
  else (if (r26 == 3) = true then (El H7 i1 o2 p1 r18 r26 (r26 == 3))
  else (if (r26 == 1) = true then (Df H7 i1 o2 p1 r18 r26 (r26 == 1))
  else (Df H7 i1 o2 p1 r18 r26 (r26 == 7)))))))
theorem Qx (H : Ah) {p0 : Ptr} {p1 : Ptr} {ra : Int} {Hr : Ah} (hF : Fb H p0 p1 = some (Hr, ra)) : evS X 59 [.one .top (Ptr.av p0), .one .top (Ptr.av p1)] H = some (.one .top (.int .i64 ra), Hr) := by
 let E2 : Ptr → EN := fun z0 => (1, vp z0)
 let E11 : EN := (7, vl 7 0)
 let S43 : Ptr → Ptr → St := fun z0 z1 => ⟨[(0, vp z0), (E2 z1)], [], H⟩
 refine yf Try.func59 false (S43 p0 p1) ?_
 unfold Fb at hF
 refine ysg (S43 p0 p1) ?_ (h := (by generalize p0 = qp0; generalize p1 = qp1; cases qp0 <;> cases qp1 <;> kernel_rfl))
 refine Ag ?_
 refine Ag ?_
 obtain ⟨i1, o2, h3, hF⟩ := Bu hF
 let E4 : EN := (0, vo i1 o2)
 let E8 : EN := (38, vo i1 o2)
 let E9 : EN := (39, vo i1 o2)
 let E15 : EN := (52, vo i1 o2)
 let E16 : EN := (53, vo i1 o2)
 let E19 : EN := (81, vo i1 o2)
 let E20 : EN := (82, vo i1 o2)
 let E21 : EN := (64, vo i1 o2)
 let E23 : EN := (78, vo i1 o2)
 let E25 : EN := (59, vo i1 o2)
 let L27 : Ptr → List EN := fun z0 => [E4, (E2 z0)]
 let L28 : Ptr → List EN := fun z0 => (L27 z0) ++ [E11]
 let L29 : List EN := [E4, E11]
 let L32 : Ptr → List EN := fun z0 => (L27 z0) ++ [(17, vo i1 o2), (18, vo i1 o2), (19, vo i1 (o2 + 21))]
 let L33 : Ptr → List EN := fun z0 => [(25, vp z0), (26, vo i1 o2), (27, vo i1 o2), (28, vo i1 (o2 + 16))]
 let L34 : Ptr → List EN := fun z0 => (L27 z0) ++ [(8, vo i1 o2), (9, vo i1 o2), (10, vo i1 (o2 + 19))]
 let L36 : List EN := [E4, (13, vo i1 o2), (14, vo i1 o2), (15, vo i1 (o2 + 19))]
 let L38 : List EN := [E4, E8, E9, (40, vo i1 (o2 + 19))]
 let L40 : List EN := [E4, E15, E16, (54, vo i1 (o2 + 19))]
 let L41 : List EN := [E4, E19, E20, (83, vo i1 (o2 + 19))]
 obtain ⟨x4, V5, hF⟩ := Ab hF
 replace V5 := Bb V5
 let W1 : Ah := Dt H i1 o2 (arM .u32 16 x4.R_ ++ [(.top, .int .u32 x4.PC_), (.top, .int .u32 x4.EPC_), (.top, .int .u32 x4.Cause_), (.top, .int .i64 x4.State_), (.top, .int .i64 x4.Why_), (.top, .int .i64 (IntKind.wrap .i64 (x4.Steps_ + 1))), (.top, .int .i64 x4.Taken_), ((.own 1), .sl 2 (List.map Ad x4.Out_)), (.top, .int .u32 x4.setup_.Entry_), (.top, .int .u32 x4.setup_.Vector_), (.top, .int .u32 x4.setup_.Guard_), (.top, .int .u32 x4.setup_.Limit_), ((.own 1), .sl 1 (List.map (eI .i32) x4.input_))])
 let E3 : EN := (12, vb (x4.State_ != 0))
 let E6 : EN := (29, vu x4.PC_)
 let L35 : Ptr → List EN := fun z0 => (L32 z0) ++ [(20, vi x4.Steps_), (21, vi (IntKind.wrap .i64 (x4.Steps_ + 1))), (22, vo i1 o2), (23, vo i1 (o2 + 21))]
 refine Aj ⟨(L27 p1) ++ [E3], [], H⟩ ?_ ?_
 refine yr 1 ⟨[(0, vp p0), (E2 p1), (8, vp p0)], [], H⟩ ?_ (h := (by generalize p0 = qp0; generalize p1 = qp1; cases qp0 <;> cases qp1 <;> kernel_rfl))
 refine Bd (congrArg (fun q => (⟨[(0, vp q), (E2 p1), (8, vp q)], [], H⟩ : St)) h3) ?_
 refine yr 1 ⟨(L27 p1) ++ [(8, vo i1 o2), (9, vo i1 o2)], [], H⟩ ?_ (h := (by generalize p1 = qp0; cases qp0 <;> kernel_rfl))
 refine yr 1 ⟨(L34 p1), [], H⟩ ?_ (h := (by generalize p1 = qp0; cases qp0 <;> kernel_rfl))
 refine Ai ⟨(L34 p1) ++ [(11, vi x4.State_)], [], H⟩ (aO (X := X) (⟨(L34 p1), [], H⟩ : St) 3 V5 19 1 false (vi x4.State_) (some 11) (by generalize p1 = qp0; cases qp0 <;> kernel_rfl) (by generalize p1 = qp0; cases qp0 <;> kernel_rfl) (by generalize p1 = qp0; cases qp0 <;> kernel_rfl) (by generalize p1 = qp0; cases qp0 <;> kernel_rfl) (by generalize p1 = qp0; cases qp0 <;> kernel_rfl) (by generalize p1 = qp0; cases qp0 <;> kernel_rfl)) ?_
 refine yr 1 ⟨(L34 p1) ++ [(11, vi x4.State_), E3], [], H⟩ ?_ (h := (by generalize p1 = qp0; cases qp0 <;> kernel_rfl))
 exact ye
 rcases Ae hF with ⟨h6, hF⟩ | ⟨h6, hF⟩
 refine yT h6 ⟨[E4], [], H⟩ ?_
 refine yso ⟨[(4, vi x4.State_)], [], H⟩ ?_ ?_
 refine yr 3 ⟨L36, [], H⟩ ?_
 refine Ai ⟨L36 ++ [(16, vi x4.State_)], [], H⟩ (yd (X := X) (⟨L36, [], H⟩ : St) 3 V5 19 1 false (vi x4.State_) (some 16)) ?_
 refine yr 1 ⟨[E4, (4, vi x4.State_), (13, vo i1 o2), (14, vo i1 o2), (15, vo i1 (o2 + 19)), (16, vi x4.State_)], [], H⟩ ?_
 exact ye
 refine Au ?_
 obtain ⟨e0, e1⟩ := Ar hF
 subst e0
 subst e1
 exact yi (vi x4.State_)
 refine yF h6 ⟨(L27 p1), [], H⟩ ?_
 refine Ao ?_
 refine Ag ?_
 obtain ⟨H7, h8, hF⟩ := Cl hF
 have V9 : Ct H7 i1 o2 29 = some (Bz (T_cpu_Cpu.mk x4.R_ x4.PC_ x4.EPC_ x4.Cause_ x4.State_ x4.Why_ (IntKind.wrap .i64 (x4.Steps_ + 1)) x4.Taken_ x4.Out_ x4.setup_ x4.input_)) := by rw [← h8]; exact Bv V5 rfl
 refine Aj ⟨(L27 p1), [], H7⟩ ?_ ?_
 refine yr 3 ⟨(L32 p1), [], H⟩ ?_ (h := (by generalize p1 = qp0; cases qp0 <;> kernel_rfl))
 refine Ai ⟨(L32 p1) ++ [(20, vi x4.Steps_)], [], H⟩ (aO (X := X) (⟨(L32 p1), [], H⟩ : St) 3 V5 21 1 false (vi x4.Steps_) (some 20) (by generalize p1 = qp0; cases qp0 <;> kernel_rfl) (by generalize p1 = qp0; cases qp0 <;> kernel_rfl) (by generalize p1 = qp0; cases qp0 <;> kernel_rfl) (by generalize p1 = qp0; cases qp0 <;> kernel_rfl) (by generalize p1 = qp0; cases qp0 <;> kernel_rfl) (by generalize p1 = qp0; cases qp0 <;> kernel_rfl)) ?_
 refine yr 3 ⟨(L35 p1), [], H⟩ ?_ (h := (by generalize p1 = qp0; cases qp0 <;> kernel_rfl))
 refine Ai ⟨(L35 p1), [], W1⟩ (G7 (X := X) (lc := []) (h2 := W1) (⟨(L35 p1), [], H⟩ : St) 3 V5 21 1 (vi (IntKind.wrap .i64 (x4.Steps_ + 1))) (by generalize p1 = qp0; cases qp0 <;> kernel_rfl) (by generalize p1 = qp0; cases qp0 <;> kernel_rfl) (by generalize p1 = qp0; cases qp0 <;> kernel_rfl) (by generalize p1 = qp0; cases qp0 <;> kernel_rfl) (by generalize p1 = qp0; cases qp0 <;> kernel_rfl) (by generalize p1 = qp0; cases qp0 <;> kernel_rfl) (Cd V5 (Nat.le_of_ble_eq_true rfl)) (by generalize p1 = qp0; cases qp0 <;> kernel_rfl)) ?_
 refine Bd (congrArg (fun q => (⟨(L35 p1), [], q⟩ : St)) h8) ?_
 exact ye
 refine Ag ?_
 obtain ⟨r10, r11, c12, hF⟩ := Be hF
 let E5 : EN := (6, vi r11)
 let E7 : EN := (30, .tup [vu r10, vi r11])
 let E13 : EN := (43, vu r10)
 let L31 : Ptr → List EN := fun z0 => (L27 z0) ++ [(5, vu r10)]
 let L37 : List EN := [E4, E5, (35, vo i1 o2), (36, vi r11)]
 refine Aj ⟨(L31 p1) ++ [E5], [], H7⟩ ?_ ?_
 refine yr 4 ⟨(L27 p1) ++ (L33 p1), [], H7⟩ ?_ (h := (by generalize p1 = qp0; cases qp0 <;> kernel_rfl))
 refine Ai ⟨(L27 p1) ++ (L33 p1) ++ [E6], [], H7⟩ (aO (X := X) (⟨(L27 p1) ++ (L33 p1), [], H7⟩ : St) 35 V9 16 1 false (vu x4.PC_) (some 29) (by generalize p1 = qp0; cases qp0 <;> kernel_rfl) (by generalize p1 = qp0; cases qp0 <;> kernel_rfl) (by generalize p1 = qp0; cases qp0 <;> kernel_rfl) (by generalize p1 = qp0; cases qp0 <;> kernel_rfl) (by generalize p1 = qp0; cases qp0 <;> kernel_rfl) (by generalize p1 = qp0; cases qp0 <;> kernel_rfl)) ?_
 refine Ai ⟨(L27 p1) ++ (L33 p1) ++ [E6, E7], [], H7⟩ (yc (some 30) true false (⟨(L27 p1) ++ (L33 p1) ++ [E6], [], H7⟩ : St) (Sp H7 c12) (hr := (by generalize p1 = qp0; cases qp0 <;> kernel_rfl)) (hs := (by generalize p1 = qp0; cases qp0 <;> kernel_rfl))) ?_
 refine yr 5 ⟨(L31 p1) ++ [E5, (24, .tup [vu r10, vi r11])] ++ (L33 p1) ++ [E6, E7, (31, vu r10), (32, vi r11)], [], H7⟩ ?_ (h := (by generalize p1 = qp0; cases qp0 <;> kernel_rfl))
 exact ye
 refine Ag ?_
 refine ysg ⟨(L31 p1) ++ [E5, (34, vb (r11 != 0))], [], H7⟩ ?_ (h := (by generalize p1 = qp0; cases qp0 <;> kernel_rfl))
 rcases Ae hF with ⟨h13, hF⟩ | ⟨h13, hF⟩
 refine yT h13 ⟨[E4, E5], [], H7⟩ ?_
 refine Ag ?_
 obtain ⟨H15, c14, hF⟩ := Ab hF
 refine Aj ⟨[E4], [], H15⟩ ?_ ?_
 refine yr 2 ⟨L37, [], H7⟩ ?_
 refine Ai ⟨L37 ++ [(37, vN)], [], H15⟩ (yc (some 37) false false (⟨L37, [], H7⟩ : St) (Fj H7 c14)) ?_
 exact ye
 refine Ag ?_
 obtain ⟨x16, V17, hF⟩ := Ab hF
 replace V17 := Bb V17
 refine Aj ⟨[(4, vi x16.State_)], [], H15⟩ ?_ ?_
 refine yr 2 ⟨[E4, E8, E9], [], H15⟩ ?_
 refine yr 1 ⟨L38, [], H15⟩ ?_
 refine Ai ⟨L38 ++ [(41, vi x16.State_)], [], H15⟩ (yd (X := X) (⟨L38, [], H15⟩ : St) 3 V17 19 1 false (vi x16.State_) (some 41)) ?_
 refine yr 1 ⟨[E4, (4, vi x16.State_), E8, E9, (40, vo i1 (o2 + 19)), (41, vi x16.State_)], [], H15⟩ ?_
 exact ye
 refine Au ?_
 obtain ⟨e0, e1⟩ := Ar hF
 subst e0
 subst e1
 exact yi (vi x16.State_)
 refine yF h13 ⟨(L31 p1), [], H7⟩ ?_
 refine Ao ?_
 refine Ag ?_
 obtain ⟨r18, r19, c20, hF⟩ := Be hF
 let E10 : EN := (6, vi r19)
 let B12 : EB := (7, (Ap r18))
 let E14 : EN := (44, .tup [.agg (Ap r18), vi r19])
 let E17 : EN := (57, vi r18.Op_)
 let E22 : EN := (65, .agg (Ap r18))
 let E24 : EN := (79, .agg (Ap r18))
 let E26 : EN := (60, .agg (Ap r18))
 let L39 : List EN := [E4, E10, (49, vo i1 o2), (50, vi r19)]
 let L42 : Ptr → List EN := fun z0 => (L28 z0) ++ [(71, vo i1 o2), (72, vp z0), (73, .agg (Ap r18))]
 refine Aj ⟨(L27 p1) ++ [E10, E11], [B12], H7⟩ ?_ ?_
 refine yr 1 ⟨(L31 p1) ++ [E13], [], H7⟩ ?_ (h := (by generalize p1 = qp0; cases qp0 <;> kernel_rfl))
 refine Ai ⟨(L31 p1) ++ [E13, E14], [], H7⟩ (yc (some 44) true false (⟨(L31 p1) ++ [E13], [], H7⟩ : St) (Wb H7 c20) (hr := (by generalize p1 = qp0; cases qp0 <;> kernel_rfl)) (hs := (by generalize p1 = qp0; cases qp0 <;> kernel_rfl))) ?_
 refine yr 6 ⟨(L31 p1) ++ [E10, E11, (42, .tup [.agg (Ap r18), vi r19]), E13, E14, (45, .agg (Ap r18)), (46, vi r19)], [B12], H7⟩ ?_ (h := (by generalize p1 = qp0; cases qp0 <;> kernel_rfl))
 exact ye
 refine Ag ?_
 refine ysg ⟨(L27 p1) ++ [E10, E11, (48, vb (r19 != 0))], [B12], H7⟩ ?_ (h := (by generalize p1 = qp0; cases qp0 <;> kernel_rfl))
 rcases Ae hF with ⟨h21, hF⟩ | ⟨h21, hF⟩
 refine yT h21 ⟨[E4, E10], [], H7⟩ ?_
 refine Ag ?_
 obtain ⟨H23, c22, hF⟩ := Ab hF
 refine Aj ⟨[E4], [], H23⟩ ?_ ?_
 refine yr 2 ⟨L39, [], H7⟩ ?_
 refine Ai ⟨L39 ++ [(51, vN)], [], H23⟩ (yc (some 51) false false (⟨L39, [], H7⟩ : St) (Fj H7 c22)) ?_
 exact ye
 refine Ag ?_
 obtain ⟨x24, V25, hF⟩ := Ab hF
 replace V25 := Bb V25
 refine Aj ⟨[(4, vi x24.State_)], [], H23⟩ ?_ ?_
 refine yr 2 ⟨[E4, E15, E16], [], H23⟩ ?_
 refine yr 1 ⟨L40, [], H23⟩ ?_
 refine Ai ⟨L40 ++ [(55, vi x24.State_)], [], H23⟩ (yd (X := X) (⟨L40, [], H23⟩ : St) 3 V25 19 1 false (vi x24.State_) (some 55)) ?_
 refine yr 1 ⟨[E4, (4, vi x24.State_), E15, E16, (54, vo i1 (o2 + 19)), (55, vi x24.State_)], [], H23⟩ ?_
 exact ye
 refine Au ?_
 obtain ⟨e0, e1⟩ := Ar hF
 subst e0
 subst e1
 exact yi (vi x24.State_)
 refine yF h21 ⟨(L28 p1), [B12], H7⟩ ?_
 refine Ao ?_
 refine Ag ?_
 refine Ag ?_
 obtain ⟨r26, c27, hF⟩ := Ab hF
 let E18 : EN := (58, vi r26)
 let L30 : Ptr → List EN := fun z0 => (L28 z0) ++ [E18]
 refine Aj ⟨(L30 p1), [B12], H7⟩ ?_ ?_
 refine yr 2 ⟨(L28 p1) ++ [(56, vl 7 0), E17], [B12], H7⟩ ?_ (h := (by generalize p1 = qp0; cases qp0 <;> kernel_rfl))
 refine Ai ⟨(L28 p1) ++ [(56, vl 7 0), E17, E18], [B12], H7⟩ (yc (some 58) true false (⟨(L28 p1) ++ [(56, vl 7 0), E17], [B12], H7⟩ : St) (Ma H7 c27) (hr := (by generalize p1 = qp0; cases qp0 <;> kernel_rfl)) (hs := (by generalize p1 = qp0; cases qp0 <;> kernel_rfl))) ?_
 exact ye
 refine Bt ?_
 refine ysg ⟨(L30 p1) ++ [(62, vb (r26 == 5))], [B12], H7⟩ ?_ (h := (by generalize p1 = qp0; cases qp0 <;> kernel_rfl))
 refine As (α := (Ah)) (fun x => (⟨[E4], [], x⟩ : St)) (fun x => Ce i1 o2 x = some (Hr, ra)) ?_ ?_
 rintro H28 hF
 replace hF : Ce i1 o2 H28 = some (Hr, ra) := hF
 unfold Ce at hF
 refine Ag ?_
 obtain ⟨x29, V30, hF⟩ := Ab hF
 replace V30 := Bb V30
 refine Aj ⟨[(4, vi x29.State_)], [], H28⟩ ?_ ?_
 refine yr 2 ⟨[E4, E19, E20], [], H28⟩ ?_
 refine yr 1 ⟨L41, [], H28⟩ ?_
 refine Ai ⟨L41 ++ [(84, vi x29.State_)], [], H28⟩ (yd (X := X) (⟨L41, [], H28⟩ : St) 3 V30 19 1 false (vi x29.State_) (some 84)) ?_
 refine yr 1 ⟨[E4, (4, vi x29.State_), E19, E20, (83, vo i1 (o2 + 19)), (84, vi x29.State_)], [], H28⟩ ?_
 exact ye
 refine Au ?_
 obtain ⟨e0, e1⟩ := Ar hF
 subst e0
 subst e1
 exact yi (vi x29.State_)
 rcases Ae hF with ⟨h31, hF⟩ | ⟨h31, hF⟩
 refine yT h31 ⟨L29, [B12], H7⟩ ?_
 obtain ⟨H33, c32, hF⟩ := Ab hF
 refine Aj ⟨[E4], [], H33⟩ ?_ ?_
 refine yr 2 ⟨L29 ++ [E21, E22], [B12], H7⟩ ?_
 refine Ai ⟨L29 ++ [E21, E22, (66, vN)], [B12], H33⟩ (yc (some 66) false false (⟨L29 ++ [E21, E22], [B12], H7⟩ : St) (Uq H7 c32)) ?_
 exact ye
 exact ⟨H33, hF, (by kernel_rfl)⟩
 refine yF h31 ⟨(L30 p1), [B12], H7⟩ ?_
 refine Ag ?_
 refine ysg ⟨(L30 p1) ++ [(67, vb (r26 == 3))], [B12], H7⟩ ?_ (h := (by generalize p1 = qp0; cases qp0 <;> kernel_rfl))
 refine As (α := (Bool)) (fun x => (⟨(L30 p1) ++ [(67, vb x)], [B12], H7⟩ : St)) (fun x => El H7 i1 o2 p1 r18 r26 x = some (Hr, ra)) ?_ ?_
 rintro j34 hF
 replace hF : El H7 i1 o2 p1 r18 r26 j34 = some (Hr, ra) := hF
 unfold El at hF
 refine As (α := (Ah)) (fun x => (⟨[E4], [], x⟩ : St)) (fun x => Jh i1 o2 x = some (Hr, ra)) ?_ ?_
 rintro H35 hF
 replace hF : Jh i1 o2 H35 = some (Hr, ra) := hF
 unfold Jh at hF
 exact ⟨H35, hF, (by kernel_rfl)⟩
 rcases Ae hF with ⟨h36, hF⟩ | ⟨h36, hF⟩
 refine yT h36 ⟨(L28 p1), [B12], H7⟩ ?_
 obtain ⟨H38, c37, hF⟩ := Ab hF
 refine Aj ⟨[E4], [], H38⟩ ?_ ?_
 refine yr 3 ⟨(L42 p1), [B12], H7⟩ ?_ (h := (by generalize p1 = qp0; cases qp0 <;> kernel_rfl))
 refine Ai ⟨(L42 p1) ++ [(74, vN)], [B12], H38⟩ (yc (some 74) false false (⟨(L42 p1), [B12], H7⟩ : St) (U9 H7 c37) (hr := (by generalize p1 = qp0; cases qp0 <;> kernel_rfl)) (hs := (by generalize p1 = qp0; cases qp0 <;> kernel_rfl))) ?_
 exact ye
 exact ⟨H38, hF, (by kernel_rfl)⟩
 refine yF h36 ⟨L29 ++ [E18], [B12], H7⟩ ?_
 refine Ag ?_
 refine ysg ⟨L29 ++ [E18, (75, vb (r26 == 2))], [B12], H7⟩ ?_
 refine As (α := (Bool)) (fun x => (⟨L29 ++ [(75, vb x)], [B12], H7⟩ : St)) (fun x => Jj H7 i1 o2 r18 x = some (Hr, ra)) ?_ ?_
 rintro j39 hF
 replace hF : Jj H7 i1 o2 r18 j39 = some (Hr, ra) := hF
 unfold Jj at hF
 refine As (α := (Ah)) (fun x => (⟨[E4], [], x⟩ : St)) (fun x => Ji i1 o2 x = some (Hr, ra)) ?_ ?_
 rintro H40 hF
 replace hF : Ji i1 o2 H40 = some (Hr, ra) := hF
 unfold Ji at hF
 exact ⟨H40, hF, (by kernel_rfl)⟩
 rcases Ae hF with ⟨h41, hF⟩ | ⟨h41, hF⟩
 refine yT h41 ⟨L29, [B12], H7⟩ ?_
 obtain ⟨H43, c42, hF⟩ := Ab hF
 refine Aj ⟨[E4], [], H43⟩ ?_ ?_
 refine yr 2 ⟨L29 ++ [E23, E24], [B12], H7⟩ ?_
 refine Ai ⟨L29 ++ [E23, E24, (80, vN)], [B12], H43⟩ (yc (some 80) false false (⟨L29 ++ [E23, E24], [B12], H7⟩ : St) (Wc H7 c42)) ?_
 exact ye
 exact ⟨H43, hF, (by kernel_rfl)⟩
 refine yF h41 ⟨L29, [B12], H7⟩ ?_
 obtain ⟨H45, c44, hF⟩ := Ab hF
 refine Aj ⟨[E4], [], H45⟩ ?_ ?_
 refine yr 2 ⟨L29 ++ [E25, E26], [B12], H7⟩ ?_
 refine Ai ⟨L29 ++ [E25, E26, (61, vN)], [B12], H45⟩ (yc (some 61) false false (⟨L29 ++ [E25, E26], [B12], H7⟩ : St) (Wd H7 c44)) ?_
 exact ye
 exact ⟨H45, hF, (by kernel_rfl)⟩
 rcases Ae hF with ⟨h46, hF⟩ | ⟨h46, hF⟩
 refine yT h46 ⟨L29 ++ [(75, vb (r26 == 2))], [B12], H7⟩ ?_
 refine Ao ?_
 exact ⟨(r26 == 2), hF, (by kernel_rfl)⟩
 refine yF h46 ⟨L29 ++ [E18], [B12], H7⟩ ?_
 refine yg ⟨L29 ++ [(75, vb (r26 == 4))], [B12], H7⟩ ?_
 exact ⟨(r26 == 4), hF, (by kernel_rfl)⟩
 rcases Ae hF with ⟨h47, hF⟩ | ⟨h47, hF⟩
 refine yT h47 ⟨(L30 p1) ++ [(67, vb (r26 == 3))], [B12], H7⟩ ?_
 refine Ao ?_
 exact ⟨(r26 == 3), hF, (by kernel_rfl)⟩
 refine yF h47 ⟨(L30 p1), [B12], H7⟩ ?_
 refine ysg ⟨(L30 p1) ++ [(67, vb (r26 == 1))], [B12], H7⟩ ?_ (h := (by generalize p1 = qp0; cases qp0 <;> kernel_rfl))
 refine As (α := (Bool)) (fun x => (⟨(L30 p1) ++ [(67, vb x)], [B12], H7⟩ : St)) (fun x => Df H7 i1 o2 p1 r18 r26 x = some (Hr, ra)) ?_ ?_
 rintro j48 hF
 replace hF : Df H7 i1 o2 p1 r18 r26 j48 = some (Hr, ra) := hF
 unfold Df at hF
 exact ⟨j48, hF, (by kernel_rfl)⟩
 rcases Ae hF with ⟨h49, hF⟩ | ⟨h49, hF⟩
 refine yT h49 ⟨(L30 p1) ++ [(67, vb (r26 == 1))], [B12], H7⟩ ?_
 refine Ao ?_
 exact ⟨(r26 == 1), hF, (by kernel_rfl)⟩
 refine yF h49 ⟨(L30 p1), [B12], H7⟩ ?_
 refine aN ⟨(L30 p1) ++ [(67, vb (r26 == 7))], [B12], H7⟩ (by generalize p1 = qp0; cases qp0 <;> kernel_rfl) ?_
 exact ⟨(r26 == 7), hF, (by kernel_rfl)⟩
noncomputable def D8 (p2 : Int) (p0 : Ptr) (p1 : Ptr) (a1 : Int) (H2 : Ah) : Option ((Int × Ah) ⊕ ((Ah))) :=
  if (decide (a1 < (if 1073741824 < p2 then 1073741824 else p2))) = true then (Cc (Fb H2 p0 p1) fun H6 r4 =>
  if (r4 != 0) = true then (some (Sum.inr H6))
  else (some (Sum.inl ((IntKind.wrap .i64 (a1 + 1)), H6))))
  else (some (Sum.inr H2))
noncomputable def Lm (H : Ah) (p0 : Ptr) (p1 : Ptr) (p2 : Int) : Option (Ah × Int) :=
  Af (Ik (fun (x : (Int × Ah)) => D8 p2 p0 p1 x.1 x.2) (0, H)) (fun H10 =>
  (p0).bnd fun i11 o12 =>
  Af (Bf H10 i11 o12) fun x14 =>
  some (H10, x14.State_))
theorem Y3 (H : Ah) {p0 : Ptr} {p1 : Ptr} {p2 : Int} {ra : Int} {Hr : Ah} (hF : Lm H p0 p1 p2 = some (Hr, ra)) : evS X 63 [.one .top (Ptr.av p0), .one .top (Ptr.av p1), .one .top (.int .i64 p2)] H = some (.one .top (.int .i64 ra), Hr) := by
 let E1 : Ptr → EN := fun z0 => (0, vp z0)
 let L5 : Ptr → Ptr → List EN := fun z0 z1 => [(E1 z0), (1, vp z1), (8, vi (if 1073741824 < p2 then 1073741824 else p2))]
 let S9 : Ptr → Ptr → St := fun z0 z1 => ⟨[(E1 z0), (1, vp z1), (2, vi p2)], [], H⟩
 refine yf Try.func63 false (S9 p0 p1) ?_
 unfold Lm at hF
 refine ysg (S9 p0 p1) ?_ (h := (by generalize p0 = qp0; generalize p1 = qp1; cases qp0 <;> cases qp1 <;> kernel_rfl))
 refine Ag ?_
 refine ysg ⟨(L5 p0 p1) ++ [(9, vi 0)], [], H⟩ ?_ (h := (by generalize p0 = qp0; generalize p1 = qp1; cases qp0 <;> cases qp1 <;> kernel_rfl))
 refine Bt ?_
 obtain ⟨r8, hL9, hF⟩ := Ab hF
 refine Qn (fun (x : (Int × Ah)) => (⟨(L5 p0 p1) ++ [(9, vi x.1)], [], x.2⟩ : St)) (fun (y : (Ah)) => ((.exit 0, (⟨[(E1 p0)], [], y⟩ : St)) : Ex × St)) hL9 (by kernel_rfl) ?_ ?_
 rintro ⟨a1, H2⟩ o hF
 replace hF : D8 p2 p0 p1 a1 H2 = some o := hF
 let L6 : Ptr → Ptr → List EN := fun z0 z1 => (L5 z0 z1) ++ [(9, vi a1)]
 let L7 : Ptr → Ptr → List EN := fun z0 z1 => (L6 z0 z1) ++ [(11, vp z0), (12, vp z1)]
 unfold D8 at hF
 refine ysg ⟨(L6 p0 p1) ++ [(10, vb (decide (a1 < (if 1073741824 < p2 then 1073741824 else p2))))], [], H2⟩ ?_ (h := (by generalize p0 = qp0; generalize p1 = qp1; cases qp0 <;> cases qp1 <;> kernel_rfl))
 refine Ag ?_
 rcases Ae hF with ⟨h3, hF⟩ | ⟨h3, hF⟩
 refine yT h3 ⟨(L6 p0 p1), [], H2⟩ ?_
 refine Ao ?_
 refine Ag ?_
 refine Bt ?_
 refine Ag ?_
 obtain ⟨H6, r4, c5, hF⟩ := Be hF
 refine Aj ⟨(L6 p0 p1) ++ [(14, vb (r4 != 0))], [], H6⟩ ?_ ?_
 refine yr 2 ⟨(L7 p0 p1), [], H2⟩ ?_ (h := (by generalize p0 = qp0; generalize p1 = qp1; cases qp0 <;> cases qp1 <;> kernel_rfl))
 refine Ai ⟨(L7 p0 p1) ++ [(13, vi r4)], [], H6⟩ (yc (some 13) false false (⟨(L7 p0 p1), [], H2⟩ : St) (Qx H2 c5) (hr := (by generalize p0 = qp0; generalize p1 = qp1; cases qp0 <;> cases qp1 <;> kernel_rfl)) (hs := (by generalize p0 = qp0; generalize p1 = qp1; cases qp0 <;> cases qp1 <;> kernel_rfl))) ?_
 refine yr 1 ⟨(L7 p0 p1) ++ [(13, vi r4), (14, vb (r4 != 0))], [], H6⟩ ?_ (h := (by generalize p0 = qp0; generalize p1 = qp1; cases qp0 <;> cases qp1 <;> kernel_rfl))
 exact ye
 rcases Ae hF with ⟨h7, hF⟩ | ⟨h7, hF⟩
 refine yT h7 ⟨[(E1 p0)], [], H6⟩ ?_
 refine Ph ?_
 refine qN rfl ?_
 cases hF
 exact ⟨_, rfl, (by kernel_rfl)⟩
 refine yF h7 ⟨(L6 p0 p1), [], H6⟩ ?_
 refine Ao ?_
 refine aN ⟨(L5 p0 p1) ++ [(9, vi (IntKind.wrap .i64 (a1 + 1)))], [], H6⟩ (by generalize p0 = qp0; generalize p1 = qp1; cases qp0 <;> cases qp1 <;> kernel_rfl) ?_
 cases hF
 exact ⟨_, rfl, (by kernel_rfl)⟩
 refine yF h3 ⟨[(E1 p0)], [], H2⟩ ?_
 refine Ph ?_
 cases hF
 exact ⟨_, rfl, (by kernel_rfl)⟩
 obtain ⟨H10, hy⟩ : ∃ y, y = r8 := ⟨_, rfl⟩
 subst hy
 refine bT (i := 0) (s := (⟨[(E1 p0)], [], H10⟩ : St)) (by kernel_rfl) ?_
 refine Qm ?_
 refine Ag ?_
 obtain ⟨i11, o12, h13, hF⟩ := Bu hF
 let E2 : EN := (0, vo i11 o12)
 let E3 : EN := (16, vo i11 o12)
 let E4 : EN := (17, vo i11 o12)
 let L8 : List EN := [E2, E3, E4, (18, vo i11 (o12 + 19))]
 obtain ⟨x14, V15, hF⟩ := Ab hF
 replace V15 := Bb V15
 refine Aj ⟨[(6, vi x14.State_)], [], H10⟩ ?_ ?_
 refine yr 1 ⟨[(E1 p0), (16, vp p0)], [], H10⟩ ?_ (h := (by generalize p0 = qp0; cases qp0 <;> kernel_rfl))
 refine Bd (congrArg (fun q => (⟨[(0, vp q), (16, vp q)], [], H10⟩ : St)) h13) ?_
 refine yr 1 ⟨[E2, E3, E4], [], H10⟩ ?_
 refine yr 1 ⟨L8, [], H10⟩ ?_
 refine Ai ⟨L8 ++ [(19, vi x14.State_)], [], H10⟩ (yd (X := X) (⟨L8, [], H10⟩ : St) 3 V15 19 1 false (vi x14.State_) (some 19)) ?_
 refine yr 1 ⟨[E2, (6, vi x14.State_), E3, E4, (18, vo i11 (o12 + 19)), (19, vi x14.State_)], [], H10⟩ ?_
 exact ye
 refine Au ?_
 obtain ⟨e0, e1⟩ := Ar hF
 subst e0
 subst e1
 exact yi (vi x14.State_)
noncomputable def Nj (H : Ah) : Option (Ah × Bool) :=
  Vt (Lc H (T_memory_Layout.mk 16 16 16 16 32)) fun H4 r1 r2 =>
  if ((r2 != 0) || r1.isNil) = true then (some (H4, false))
  else (Cc (Do (T_instr_Instr.mk 2 1 0 0 5)) fun r7 r8 =>
  Cc (Do (T_instr_Instr.mk 1 0 0 0 0)) fun r10 r11 =>
  Cc (Cv H4 r1 0 ([r7, r10] : List Int)) fun H15 r13 =>
  Cc (N7 H15 (T_cpu_Setup.mk 0 0 0 0) ([] : List Int)) fun H18 r16 =>
  Cc (if (!r16.isNil) = true then (Cc (Lm H18 r16 r1 9) fun H22 r20 =>
  if (r20 == 1) = true then ((r16).bnd fun i24 o25 =>
  Af (Bf H22 i24 o25) fun x27 =>
  if ((x27.R_.g 1) == 5) = true then (if (x27.Steps_ == 2) = true then (some (H22, true)) else (some (H22, false))) else (some (H22, false))) else (some (H22, false))) else (some (H18, false))) fun H32 w31 =>
  some (H32, w31))
theorem Y4 (H : Ah) {ra : Bool} {Hr : Ah} (hF : Nj H = some (Hr, ra)) : evS X 52 [] H = some (.one .top (.bool ra), Hr) := by
 let E2 : EN := (9, .agg (List.replicate 4 (.top, .int .u32 16) ++ [(.top, .int .u32 32)]))
 let E4 : EN := (20, .agg [(.top, .int .i64 2), (.top, .int .i64 1), (.top, .int .i64 0), (.top, .int .i64 0), (.top, .int .i64 5)])
 let E6 : EN := (25, .agg ([(.top, .int .i64 1)] ++ List.replicate 4 (.top, .int .i64 0)))
 let E8 : EN := (34, .agg (List.replicate 4 (.top, .int .u32 0)))
 let L24 : List EN := [(51, vF), (52, vF), (53, vN), (54, vN), (55, vN), (56, vN), (57, vN), (58, vF), (59, vF), (60, vF)]
 let L25 : List EN := [(43, vF), (44, vF), (45, vN), (46, vN), (47, vN), (48, vN), (49, vN), (50, vN)] ++ L24
 refine yf Try.func52 false ⟨[], [], H⟩ ?_
 unfold Nj at hF
 refine ysg ⟨[], [], H⟩ ?_
 refine Ag ?_
 obtain ⟨H4, r1, r2, c3, hF⟩ := R6 hF
 let E1 : Ptr → EN := fun z0 => (1, vp z0)
 let E3 : Ptr → EN := fun z0 => (10, .tup [vp z0, vi r2])
 let E9 : Ptr → EN := fun z0 => (40, vp z0)
 let L18 : Ptr → List EN := fun z0 => [(E1 z0), (2, vi r2), (13, vi r2)]
 let L22 : Ptr → List EN := fun z0 => (L18 z0) ++ [(14, vF), (15, vF), (16, vp z0)]
 let S26 : Ptr → St := fun z0 => ⟨[(E1 z0), E4], [], H4⟩
 refine Aj ⟨[(E1 r1), (2, vi r2)], [], H4⟩ ?_ ?_
 refine yr 1 ⟨[E2], [], H⟩ ?_
 refine Ai ⟨[E2, (E3 r1)], [], H4⟩ (yc (some 10) false false (⟨[E2], [], H⟩ : St) (Tb H c3) (hr := (by generalize r1 = qp0; cases qp0 <;> kernel_rfl)) (hs := (by generalize r1 = qp0; cases qp0 <;> kernel_rfl))) ?_
 refine yr 5 ⟨[(E1 r1), (2, vi r2), (8, .tup [vp r1, vi r2]), E2, (E3 r1), (11, vp r1), (12, vi r2)], [], H4⟩ ?_ (h := (by generalize r1 = qp0; cases qp0 <;> kernel_rfl))
 exact ye
 refine Ag ?_
 refine yso ⟨[(E1 r1), (18, vb ((r2 != 0) || r1.isNil))], [], H4⟩ ?_ ?_
 refine yr 3 ⟨(L18 r1) ++ [(14, vb (r2 != 0)), (15, vb (r2 != 0))], [], H4⟩ ?_ (h := (by generalize r1 = qp0; cases qp0 <;> kernel_rfl))
 rcases Ax (r2 != 0) with h5 | h5
 refine Bd (congrArg (fun q => (⟨(L18 r1) ++ [(14, vb q), (15, vb q)], [], H4⟩ : St)) h5) ?_
 refine yr 3 ⟨(L18 r1) ++ [(14, vT), (15, vT), (16, vN), (17, vN), (18, vT)], [], H4⟩ ?_ (h := (by generalize r1 = qp0; cases qp0 <;> kernel_rfl))
 refine Bw (congrArg (fun q0 => (⟨[(E1 r1), (18, vb q0)], [], H4⟩ : St)) (show true = ((r2 != 0) || r1.isNil) by simp [h5])) ?_
 exact ye
 refine Bd (congrArg (fun q => (⟨(L18 r1) ++ [(14, vb q), (15, vb q)], [], H4⟩ : St)) h5) ?_
 refine yr 1 ⟨(L22 r1), [], H4⟩ ?_ (h := (by generalize r1 = qp0; cases qp0 <;> kernel_rfl))
 refine Ai ⟨(L22 r1) ++ [(17, vb r1.isNil)], [], H4⟩ (Ro (⟨(L22 r1), [], H4⟩ : St) (Wv (P := X.P) (ty := 103) (x := (.tmp 16)) (y := (.const (.pointer none))) (m := .top) (m' := .top) r1 (by generalize r1 = qp0; cases qp0 <;> kernel_rfl) (by generalize r1 = qp0; cases qp0 <;> kernel_rfl)) rfl (some 17) (by generalize r1 = qp0; cases qp0 <;> kernel_rfl) (by generalize r1 = qp0; cases qp0 <;> kernel_rfl)) ?_
 refine yr 1 ⟨(L22 r1) ++ [(17, vb r1.isNil), (18, vb r1.isNil)], [], H4⟩ ?_ (h := (by generalize r1 = qp0; cases qp0 <;> kernel_rfl))
 refine Bw (congrArg (fun q0 => (⟨[(E1 r1), (18, vb q0)], [], H4⟩ : St)) (show r1.isNil = ((r2 != 0) || r1.isNil) by simp [h5])) ?_
 exact ye
 rcases Ae hF with ⟨h6, hF⟩ | ⟨h6, hF⟩
 refine yT h6 ⟨[], [], H4⟩ ?_
 refine ysg ⟨[(0, vF)], [], H4⟩ ?_
 refine Au ?_
 obtain ⟨e0, e1⟩ := Ar hF
 subst e0
 subst e1
 exact yi (vF)
 refine yF h6 ⟨[(E1 r1)], [], H4⟩ ?_
 refine Ao ?_
 refine Ag ?_
 obtain ⟨r7, r8, c9, hF⟩ := Be hF
 let E5 : EN := (21, .tup [vu r7, vi r8])
 let L16 : Ptr → List EN := fun z0 => [(E1 z0), (3, vu r7)]
 refine Aj ⟨(L16 r1), [], H4⟩ ?_ ?_
 refine yr 1 (S26 r1) ?_ (h := (by generalize r1 = qp0; cases qp0 <;> kernel_rfl))
 refine Ai ⟨[(E1 r1), E4, E5], [], H4⟩ (yc (some 21) true false (S26 r1) (Nz H4 c9) (hr := (by generalize r1 = qp0; cases qp0 <;> kernel_rfl)) (hs := (by generalize r1 = qp0; cases qp0 <;> kernel_rfl))) ?_
 refine yr 5 ⟨(L16 r1) ++ [(4, vi r8), (19, .tup [vu r7, vi r8]), E4, E5, (22, vu r7), (23, vi r8)], [], H4⟩ ?_ (h := (by generalize r1 = qp0; cases qp0 <;> kernel_rfl))
 exact ye
 refine Ag ?_
 obtain ⟨r10, r11, c12, hF⟩ := Be hF
 let E7 : EN := (26, .tup [vu r10, vi r11])
 let L23 : Ptr → List EN := fun z0 => (L16 z0) ++ [(5, vu r10), (29, vp z0), (30, vu r7), (31, vu r10)]
 refine Aj ⟨(L16 r1) ++ [(5, vu r10)], [], H4⟩ ?_ ?_
 refine yr 1 ⟨(L16 r1) ++ [E6], [], H4⟩ ?_ (h := (by generalize r1 = qp0; cases qp0 <;> kernel_rfl))
 refine Ai ⟨(L16 r1) ++ [E6, E7], [], H4⟩ (yc (some 26) true false (⟨(L16 r1) ++ [E6], [], H4⟩ : St) (Nz H4 c12) (hr := (by generalize r1 = qp0; cases qp0 <;> kernel_rfl)) (hs := (by generalize r1 = qp0; cases qp0 <;> kernel_rfl))) ?_
 refine yr 5 ⟨(L16 r1) ++ [(5, vu r10), (6, vi r11), (24, .tup [vu r10, vi r11]), E6, E7, (27, vu r10), (28, vi r11)], [], H4⟩ ?_ (h := (by generalize r1 = qp0; cases qp0 <;> kernel_rfl))
 exact ye
 refine Ag ?_
 obtain ⟨H15, r13, c14, hF⟩ := Be hF
 let S27 : Ptr → St := fun z0 => ⟨[(E1 z0), E8], [], H15⟩
 refine Aj ⟨[(E1 r1)], [], H15⟩ ?_ ?_
 refine yr 4 ⟨(L23 r1) ++ [(32, .one (.own 1) (.sl 1 (List.map (eI .u32) ([r7, r10] : List Int))))], [], H4⟩ ?_ (h := (by generalize r1 = qp0; cases qp0 <;> kernel_rfl))
 refine Ai ⟨(L23 r1) ++ [(32, .one .top .junk), (33, vi r13)], [], H15⟩ (yc (some 33) false true (⟨(L23 r1) ++ [(32, .one .top .junk)], [], H4⟩ : St) (Ov H4 c14) (hr := (by generalize r1 = qp0; cases qp0 <;> kernel_rfl)) (hs := (by generalize r1 = qp0; cases qp0 <;> kernel_rfl))) ?_
 exact ye
 refine Ag ?_
 obtain ⟨H18, r16, c17, hF⟩ := Be hF
 let L14 : Ptr → Ptr → List EN := fun z0 z1 => [(E1 z0), (7, vp z1), (36, vp z1)]
 let L17 : Ptr → Ptr → List EN := fun z0 z1 => (L14 z0 z1) ++ [(37, vT), (38, vT), (39, vp z1)]
 refine Aj ⟨[(E1 r1), (7, vp r16)], [], H18⟩ ?_ ?_
 refine yr 1 (S27 r1) ?_ (h := (by generalize r1 = qp0; cases qp0 <;> kernel_rfl))
 refine Ai ⟨[(E1 r1), E8, (35, vp r16)], [], H18⟩ (yc (some 35) false true (S27 r1) (gC H15 c17) (hr := (by generalize r1 = qp0; generalize r16 = qp1; cases qp0 <;> cases qp1 <;> kernel_rfl)) (hs := (by generalize r1 = qp0; generalize r16 = qp1; cases qp0 <;> cases qp1 <;> kernel_rfl))) ?_
 refine yr 1 ⟨[(E1 r1), (7, vp r16), E8, (35, vp r16)], [], H18⟩ ?_ (h := (by generalize r1 = qp0; generalize r16 = qp1; cases qp0 <;> cases qp1 <;> kernel_rfl))
 exact ye
 refine Ag ?_
 obtain ⟨H32, w31, hB33, hF⟩ := Be hF
 refine Aj ⟨[(0, vb w31)], [], H32⟩ ?_ ?_
 refine yr 1 ⟨(L14 r1 r16), [], H18⟩ ?_ (h := (by generalize r1 = qp0; generalize r16 = qp1; cases qp0 <;> cases qp1 <;> kernel_rfl))
 refine Ai ⟨(L14 r1 r16) ++ [(37, vb (!r16.isNil))], [], H18⟩ (Ro (⟨(L14 r1 r16), [], H18⟩ : St) (oE (P := X.P) (ty := 102) (x := (.tmp 36)) (y := (.const (.pointer none))) (m := .top) (m' := .top) r16 (by generalize r1 = qp0; generalize r16 = qp1; cases qp0 <;> cases qp1 <;> kernel_rfl) (by generalize r1 = qp0; generalize r16 = qp1; cases qp0 <;> cases qp1 <;> kernel_rfl)) rfl (some 37) (by generalize r1 = qp0; generalize r16 = qp1; cases qp0 <;> cases qp1 <;> kernel_rfl) (by generalize r1 = qp0; generalize r16 = qp1; cases qp0 <;> cases qp1 <;> kernel_rfl)) ?_
 refine yr 1 ⟨(L14 r1 r16) ++ [(37, vb (!r16.isNil)), (38, vb (!r16.isNil))], [], H18⟩ ?_ (h := (by generalize r1 = qp0; generalize r16 = qp1; cases qp0 <;> cases qp1 <;> kernel_rfl))
 rcases Ae hB33 with ⟨h19, hB33⟩ | ⟨h19, hB33⟩
 refine Bd (congrArg (fun q => (⟨(L14 r1 r16) ++ [(37, vb q), (38, vb q)], [], H18⟩ : St)) h19) ?_
 refine yr 2 ⟨(L17 r1 r16) ++ [(E9 r1)], [], H18⟩ ?_ (h := (by generalize r1 = qp0; generalize r16 = qp1; cases qp0 <;> cases qp1 <;> kernel_rfl))
 obtain ⟨H22, r20, c21, hB33⟩ := Be hB33
 let L12 : Ptr → List EN := fun z0 => [(E9 z0), (41, vi r20), (42, vT), (43, vT), (44, vT)]
 let L21 : Ptr → Ptr → List EN := fun z0 z1 => (L17 z0 z1) ++ [(E9 z0), (41, vi r20)]
 refine Ai ⟨(L21 r1 r16), [], H22⟩ (yc (some 41) false false (⟨(L17 r1 r16) ++ [(E9 r1)], [], H18⟩ : St) (Y3 H18 c21) (hr := (by generalize r1 = qp0; generalize r16 = qp1; cases qp0 <;> cases qp1 <;> kernel_rfl)) (hs := (by generalize r1 = qp0; generalize r16 = qp1; cases qp0 <;> cases qp1 <;> kernel_rfl))) ?_
 refine yr 3 ⟨(L21 r1 r16) ++ [(42, vb (r20 == 1)), (43, vb (r20 == 1)), (44, vb (r20 == 1))], [], H22⟩ ?_ (h := (by generalize r1 = qp0; generalize r16 = qp1; cases qp0 <;> cases qp1 <;> kernel_rfl))
 rcases Ae hB33 with ⟨h23, hB33⟩ | ⟨h23, hB33⟩
 refine Bd (congrArg (fun q => (⟨(L21 r1 r16) ++ [(42, vb q), (43, vb q), (44, vb q)], [], H22⟩ : St)) h23) ?_
 refine yr 1 ⟨(L17 r1 r16) ++ (L12 r1) ++ [(45, vp r16)], [], H22⟩ ?_ (h := (by generalize r1 = qp0; generalize r16 = qp1; cases qp0 <;> cases qp1 <;> kernel_rfl))
 obtain ⟨i24, o25, h26, hB33⟩ := Bu hB33
 let E10 : EN := (47, vo i24 o25)
 let E11 : EN := (48, vo i24 (o25 + 1))
 let L13 : Ptr → List EN := fun z0 => [(E1 z0), (7, vo i24 o25), (36, vo i24 o25), (37, vT), (38, vT), (39, vo i24 o25)] ++ (L12 z0) ++ [(45, vo i24 o25), (46, vo i24 o25)]
 refine Bd (congrArg (fun q => (⟨[(E1 r1), (7, vp q), (36, vp q), (37, vT), (38, vT), (39, vp q)] ++ (L12 r1) ++ [(45, vp q)], [], H22⟩ : St)) h26) ?_
 refine yr 1 ⟨(L13 r1), [], H22⟩ ?_ (h := (by generalize r1 = qp0; cases qp0 <;> kernel_rfl))
 obtain ⟨x27, V28, hB33⟩ := Ab hB33
 replace V28 := Bb V28
 let L15 : Ptr → List EN := fun z0 => (L13 z0) ++ [E10, E11, (49, vu (x27.R_.g 1))]
 let L19 : Ptr → List EN := fun z0 => (L15 z0) ++ [(50, vT), (51, vT), (52, vT), (53, vo i24 o25), (54, vo i24 o25), (55, vo i24 (o25 + 21))]
 let L20 : Ptr → List EN := fun z0 => (L19 z0) ++ [(56, vi x27.Steps_)]
 refine yr 2 ⟨(L13 r1) ++ [E10, E11], [], H22⟩ ?_ (h := (by generalize r1 = qp0; cases qp0 <;> kernel_rfl))
 refine Ai ⟨(L15 r1), [], H22⟩ (aO (X := X) (⟨(L13 r1) ++ [E10, E11], [], H22⟩ : St) 35 V28 1 1 false (vu (x27.R_.g 1)) (some 49) (by generalize r1 = qp0; cases qp0 <;> kernel_rfl) (by generalize r1 = qp0; cases qp0 <;> kernel_rfl) (by generalize r1 = qp0; cases qp0 <;> kernel_rfl) (by generalize r1 = qp0; cases qp0 <;> kernel_rfl) (by generalize r1 = qp0; cases qp0 <;> kernel_rfl) (by generalize r1 = qp0; cases qp0 <;> kernel_rfl)) ?_
 refine yr 3 ⟨(L15 r1) ++ [(50, vb ((x27.R_.g 1) == 5)), (51, vb ((x27.R_.g 1) == 5)), (52, vb ((x27.R_.g 1) == 5))], [], H22⟩ ?_ (h := (by generalize r1 = qp0; cases qp0 <;> kernel_rfl))
 rcases Ae hB33 with ⟨h29, hB33⟩ | ⟨h29, hB33⟩
 refine Bd (congrArg (fun q => (⟨(L15 r1) ++ [(50, vb q), (51, vb q), (52, vb q)], [], H22⟩ : St)) h29) ?_
 refine yr 3 ⟨(L19 r1), [], H22⟩ ?_ (h := (by generalize r1 = qp0; cases qp0 <;> kernel_rfl))
 refine Ai ⟨(L20 r1), [], H22⟩ (aO (X := X) (⟨(L19 r1), [], H22⟩ : St) 3 V28 21 1 false (vi x27.Steps_) (some 56) (by generalize r1 = qp0; cases qp0 <;> kernel_rfl) (by generalize r1 = qp0; cases qp0 <;> kernel_rfl) (by generalize r1 = qp0; cases qp0 <;> kernel_rfl) (by generalize r1 = qp0; cases qp0 <;> kernel_rfl) (by generalize r1 = qp0; cases qp0 <;> kernel_rfl) (by generalize r1 = qp0; cases qp0 <;> kernel_rfl)) ?_
 refine yr 3 ⟨(L20 r1) ++ [(57, vb (x27.Steps_ == 2)), (58, vb (x27.Steps_ == 2)), (59, vb (x27.Steps_ == 2))], [], H22⟩ ?_ (h := (by generalize r1 = qp0; cases qp0 <;> kernel_rfl))
 rcases Ae hB33 with ⟨h30, hB33⟩ | ⟨h30, hB33⟩
 refine Bd (congrArg (fun q => (⟨(L20 r1) ++ [(57, vb q), (58, vb q), (59, vb q)], [], H22⟩ : St)) h30) ?_
 refine yr 2 ⟨[(0, vT)] ++ (L20 r1) ++ [(57, vT), (58, vT), (59, vT), (60, vT)], [], H22⟩ ?_ (h := (by generalize r1 = qp0; cases qp0 <;> kernel_rfl))
 cases hB33
 exact ye
 refine Bd (congrArg (fun q => (⟨(L20 r1) ++ [(57, vb q), (58, vb q), (59, vb q)], [], H22⟩ : St)) h30) ?_
 refine yr 2 ⟨[(0, vF)] ++ (L20 r1) ++ [(57, vF), (58, vF), (59, vF), (60, vF)], [], H22⟩ ?_ (h := (by generalize r1 = qp0; cases qp0 <;> kernel_rfl))
 cases hB33
 exact ye
 refine Bd (congrArg (fun q => (⟨(L15 r1) ++ [(50, vb q), (51, vb q), (52, vb q)], [], H22⟩ : St)) h29) ?_
 refine yr 9 ⟨[(0, vF)] ++ (L15 r1) ++ [(50, vF)] ++ L24, [], H22⟩ ?_ (h := (by generalize r1 = qp0; cases qp0 <;> kernel_rfl))
 cases hB33
 exact ye
 refine Bd (congrArg (fun q => (⟨(L21 r1 r16) ++ [(42, vb q), (43, vb q), (44, vb q)], [], H22⟩ : St)) h23) ?_
 refine yr 17 ⟨[(0, vF)] ++ (L21 r1 r16) ++ [(42, vF)] ++ L25, [], H22⟩ ?_ (h := (by generalize r1 = qp0; generalize r16 = qp1; cases qp0 <;> cases qp1 <;> kernel_rfl))
 cases hB33
 exact ye
 refine Bd (congrArg (fun q => (⟨(L14 r1 r16) ++ [(37, vb q), (38, vb q)], [], H18⟩ : St)) h19) ?_
 refine yr 23 ⟨[(0, vF)] ++ (L14 r1 r16) ++ [(37, vF), (38, vF), (39, vN), (40, vN), (41, vN), (42, vN)] ++ L25, [], H18⟩ ?_ (h := (by generalize r1 = qp0; generalize r16 = qp1; cases qp0 <;> cases qp1 <;> kernel_rfl))
 cases hB33
 exact ye
 refine Au ?_
 obtain ⟨e0, e1⟩ := Ar hF
 subst e0
 subst e1
 exact yi (vb w31)
noncomputable def Ho (p0 : Int) (j14 : Bool) : Option (Int) :=
  if j14 = true then (some 7)
  else (if (p0 == 28) = true then (some 8)
  else (some (-1)))
noncomputable def Hp (p0 : Int) (j12 : Bool) : Option (Int) :=
  if j12 = true then (some 6)
  else (if (p0 == 22) = true then (Ho p0 (p0 == 22))
  else (Ho p0 (p0 == 23)))
noncomputable def Hq (p0 : Int) (j19 : Bool) : Option (Int) :=
  Hp p0 j19
noncomputable def Hs (p0 : Int) (j21 : Bool) : Option (Int) :=
  Hq p0 j21
noncomputable def Ht (p0 : Int) (j23 : Bool) : Option (Int) :=
  Hs p0 j23
noncomputable def F3 (p0 : Int) (j25 : Bool) : Option (Int) :=
  Ht p0 j25
noncomputable def Hu (p0 : Int) (j10 : Bool) : Option (Int) :=
  if j10 = true then (some 4)
  else (if (p0 == 24) = true then (Hp p0 (p0 == 24))
  else (if (p0 == 25) = true then (Hq p0 (p0 == 25))
  else (if (p0 == 27) = true then (Hs p0 (p0 == 27))
  else (if (p0 == 29) = true then (Ht p0 (p0 == 29))
  else (if (p0 == 31) = true then (F3 p0 (p0 == 31))
  else (F3 p0 (p0 == 32)))))))
noncomputable def F4 (p0 : Int) (j28 : Bool) : Option (Int) :=
  Hu p0 j28
noncomputable def Hv (p0 : Int) (j8 : Bool) : Option (Int) :=
  if j8 = true then (some 3)
  else (if (p0 == 4) = true then (Hu p0 (p0 == 4))
  else (if (p0 == 26) = true then (F4 p0 (p0 == 26))
  else (F4 p0 (p0 == 34))))
noncomputable def F5 (p0 : Int) (j31 : Bool) : Option (Int) :=
  Hv p0 j31
noncomputable def Hw (p0 : Int) (j6 : Bool) : Option (Int) :=
  if j6 = true then (some 2)
  else (if (p0 == 5) = true then (Hv p0 (p0 == 5))
  else (if (p0 == 18) = true then (F5 p0 (p0 == 18))
  else (F5 p0 (p0 == 19))))
noncomputable def F6 (p0 : Int) (j34 : Bool) : Option (Int) :=
  Hw p0 j34
noncomputable def Hx (p0 : Int) (j4 : Bool) : Option (Int) :=
  if j4 = true then (some 1)
  else (if (p0 == 3) = true then (Hw p0 (p0 == 3))
  else (if (p0 == 30) = true then (F6 p0 (p0 == 30))
  else (F6 p0 (p0 == 33))))
noncomputable def F7 (p0 : Int) (j37 : Bool) : Option (Int) :=
  Hx p0 j37
noncomputable def Dw  (p0 : Int) : Option (Int) :=
  if ((decide (p0 ≥ 6)) && (decide (p0 ≤ 17))) = true then (some 5)
  else (if (p0 == 1) = true then (some 0)
  else (if (p0 == 2) = true then (Hx p0 (p0 == 2))
  else (if (p0 == 20) = true then (F7 p0 (p0 == 20))
  else (F7 p0 (p0 == 21)))))
theorem Oy (H : Ah) {p0 : Int} {ra : Int} (hF : Dw p0 = some ra) : evS X 91 [.one .top (.int .i64 p0)] H = some (.one .top (.int .i64 ra), H) := by
 let E1 : EN := (0, vi p0)
 let E2 : EN := (9, vi p0)
 let L3 : List EN := [E1, (3, vi p0)]
 let S4 : St := ⟨[E1], [], H⟩
 let S5 : St := ⟨[], [], H⟩
 let S6 : St := ⟨[E2], [], H⟩
 let S7 : St := ⟨[E2, (12, vb (p0 == 2))], [], H⟩
 let S8 : St := ⟨[E2, (16, vb (p0 == 3))], [], H⟩
 let S9 : St := ⟨[E2, (20, vb (p0 == 5))], [], H⟩
 let S10 : St := ⟨[E2, (24, vb (p0 == 4))], [], H⟩
 let S11 : St := ⟨[E2, (28, vb (p0 == 24))], [], H⟩
 let S12 : St := ⟨[E2, (35, vb (p0 == 22))], [], H⟩
 let S13 : St := ⟨[E2, (28, vb (p0 == 25))], [], H⟩
 let S14 : St := ⟨[E2, (28, vb (p0 == 27))], [], H⟩
 let S15 : St := ⟨[E2, (28, vb (p0 == 29))], [], H⟩
 let S16 : St := ⟨[E2, (28, vb (p0 == 31))], [], H⟩
 let S17 : St := ⟨[E2, (24, vb (p0 == 26))], [], H⟩
 let S18 : St := ⟨[E2, (20, vb (p0 == 18))], [], H⟩
 let S19 : St := ⟨[E2, (16, vb (p0 == 30))], [], H⟩
 let S20 : St := ⟨[E2, (12, vb (p0 == 20))], [], H⟩
 refine yf Try.func91 true S4 ?_
 unfold Dw at hF
 refine ysg S4 ?_
 refine Ag ?_
 refine yso ⟨[E1, (8, vb ((decide (p0 ≥ 6)) && (decide (p0 ≤ 17))))], [], H⟩ ?_ ?_
 refine yr 3 ⟨L3 ++ [(4, vb (decide (p0 ≥ 6))), (5, vb (decide (p0 ≥ 6)))], [], H⟩ ?_
 rcases Ax (decide (p0 ≥ 6)) with h1 | h1
 refine Bd (congrArg (fun q => (⟨L3 ++ [(4, vb q), (5, vb q)], [], H⟩ : St)) h1) ?_
 refine yr 3 ⟨L3 ++ [(4, vT), (5, vT), (6, vi p0), (7, vb (decide (p0 ≤ 17))), (8, vb (decide (p0 ≤ 17)))], [], H⟩ ?_
 refine Bw (congrArg (fun q0 => (⟨[E1, (8, vb q0)], [], H⟩ : St)) (show (decide (p0 ≤ 17)) = ((decide (p0 ≥ 6)) && (decide (p0 ≤ 17))) by simp [h1])) ?_
 exact ye
 refine Bd (congrArg (fun q => (⟨L3 ++ [(4, vb q), (5, vb q)], [], H⟩ : St)) h1) ?_
 refine yr 3 ⟨L3 ++ [(4, vF), (5, vF), (6, vN), (7, vN), (8, vF)], [], H⟩ ?_
 refine Bw (congrArg (fun q0 => (⟨[E1, (8, vb q0)], [], H⟩ : St)) (show false = ((decide (p0 ≥ 6)) && (decide (p0 ≤ 17))) by simp [h1])) ?_
 exact ye
 rcases Ae hF with ⟨h2, hF⟩ | ⟨h2, hF⟩
 refine yT h2 S5 ?_
 refine ysg ⟨[(2, vi 5)], [], H⟩ ?_
 refine Au ?_
 obtain e0 := Am hF
 subst e0
 exact yp (vi 5)
 refine yF h2 S4 ?_
 refine Ao ?_
 refine ysg S6 ?_
 refine Bt ?_
 refine ysg ⟨[E2, (10, vb (p0 == 1))], [], H⟩ ?_
 rcases Ae hF with ⟨h3, hF⟩ | ⟨h3, hF⟩
 refine yT h3 S5 ?_
 refine ysg ⟨[(2, vi 0)], [], H⟩ ?_
 refine Au ?_
 obtain e0 := Am hF
 subst e0
 exact yp (vi 0)
 refine yF h3 S6 ?_
 refine Ag ?_
 refine ysg S7 ?_
 refine As (α := (Bool)) (fun x => (⟨[E2, (12, vb x)], [], H⟩ : St)) (fun x => Hx p0 x = some ra) ?_ ?_
 rintro j4 hF
 replace hF : Hx p0 j4 = some ra := hF
 unfold Hx at hF
 rcases Ae hF with ⟨h5, hF⟩ | ⟨h5, hF⟩
 refine yT h5 S5 ?_
 refine ysg ⟨[(2, vi 1)], [], H⟩ ?_
 refine Au ?_
 obtain e0 := Am hF
 subst e0
 exact yp (vi 1)
 refine yF h5 S6 ?_
 refine Ag ?_
 refine ysg S8 ?_
 refine As (α := (Bool)) (fun x => (⟨[E2, (16, vb x)], [], H⟩ : St)) (fun x => Hw p0 x = some ra) ?_ ?_
 rintro j6 hF
 replace hF : Hw p0 j6 = some ra := hF
 unfold Hw at hF
 rcases Ae hF with ⟨h7, hF⟩ | ⟨h7, hF⟩
 refine yT h7 S5 ?_
 refine ysg ⟨[(2, vi 2)], [], H⟩ ?_
 refine Au ?_
 obtain e0 := Am hF
 subst e0
 exact yp (vi 2)
 refine yF h7 S6 ?_
 refine Ag ?_
 refine ysg S9 ?_
 refine As (α := (Bool)) (fun x => (⟨[E2, (20, vb x)], [], H⟩ : St)) (fun x => Hv p0 x = some ra) ?_ ?_
 rintro j8 hF
 replace hF : Hv p0 j8 = some ra := hF
 unfold Hv at hF
 rcases Ae hF with ⟨h9, hF⟩ | ⟨h9, hF⟩
 refine yT h9 S5 ?_
 refine ysg ⟨[(2, vi 3)], [], H⟩ ?_
 refine Au ?_
 obtain e0 := Am hF
 subst e0
 exact yp (vi 3)
 refine yF h9 S6 ?_
 refine Ag ?_
 refine ysg S10 ?_
 refine As (α := (Bool)) (fun x => (⟨[E2, (24, vb x)], [], H⟩ : St)) (fun x => Hu p0 x = some ra) ?_ ?_
 rintro j10 hF
 replace hF : Hu p0 j10 = some ra := hF
 unfold Hu at hF
 rcases Ae hF with ⟨h11, hF⟩ | ⟨h11, hF⟩
 refine yT h11 S5 ?_
 refine ysg ⟨[(2, vi 4)], [], H⟩ ?_
 refine Au ?_
 obtain e0 := Am hF
 subst e0
 exact yp (vi 4)
 refine yF h11 S6 ?_
 refine Ag ?_
 refine ysg S11 ?_
 refine As (α := (Bool)) (fun x => (⟨[E2, (28, vb x)], [], H⟩ : St)) (fun x => Hp p0 x = some ra) ?_ ?_
 rintro j12 hF
 replace hF : Hp p0 j12 = some ra := hF
 unfold Hp at hF
 rcases Ae hF with ⟨h13, hF⟩ | ⟨h13, hF⟩
 refine yT h13 S5 ?_
 refine ysg ⟨[(2, vi 6)], [], H⟩ ?_
 refine Au ?_
 obtain e0 := Am hF
 subst e0
 exact yp (vi 6)
 refine yF h13 S6 ?_
 refine Ag ?_
 refine ysg S12 ?_
 refine As (α := (Bool)) (fun x => (⟨[E2, (35, vb x)], [], H⟩ : St)) (fun x => Ho p0 x = some ra) ?_ ?_
 rintro j14 hF
 replace hF : Ho p0 j14 = some ra := hF
 unfold Ho at hF
 rcases Ae hF with ⟨h15, hF⟩ | ⟨h15, hF⟩
 refine yT h15 S5 ?_
 refine ysg ⟨[(2, vi 7)], [], H⟩ ?_
 refine Au ?_
 obtain e0 := Am hF
 subst e0
 exact yp (vi 7)
 refine yF h15 S6 ?_
 refine ysg ⟨[(38, vb (p0 == 28))], [], H⟩ ?_
 rcases Ae hF with ⟨h16, hF⟩ | ⟨h16, hF⟩
 refine yT h16 S5 ?_
 refine ysg ⟨[(2, vi 8)], [], H⟩ ?_
 refine Au ?_
 obtain e0 := Am hF
 subst e0
 exact yp (vi 8)
 refine yF h16 S5 ?_
 refine ysg ⟨[(2, vi (-1))], [], H⟩ ?_
 refine Au ?_
 obtain e0 := Am hF
 subst e0
 exact yp (vi (-1))
 rcases Ae hF with ⟨h17, hF⟩ | ⟨h17, hF⟩
 refine yT h17 S12 ?_
 refine Ao ?_
 exact ⟨(p0 == 22), hF, (by kernel_rfl)⟩
 refine yF h17 S6 ?_
 refine yg ⟨[E2, (35, vb (p0 == 23))], [], H⟩ ?_
 exact ⟨(p0 == 23), hF, (by kernel_rfl)⟩
 rcases Ae hF with ⟨h18, hF⟩ | ⟨h18, hF⟩
 refine yT h18 S11 ?_
 refine Ao ?_
 exact ⟨(p0 == 24), hF, (by kernel_rfl)⟩
 refine yF h18 S6 ?_
 refine ysg S13 ?_
 refine As (α := (Bool)) (fun x => (⟨[E2, (28, vb x)], [], H⟩ : St)) (fun x => Hq p0 x = some ra) ?_ ?_
 rintro j19 hF
 replace hF : Hq p0 j19 = some ra := hF
 unfold Hq at hF
 exact ⟨j19, hF, (by kernel_rfl)⟩
 rcases Ae hF with ⟨h20, hF⟩ | ⟨h20, hF⟩
 refine yT h20 S13 ?_
 refine Ao ?_
 exact ⟨(p0 == 25), hF, (by kernel_rfl)⟩
 refine yF h20 S6 ?_
 refine ysg S14 ?_
 refine As (α := (Bool)) (fun x => (⟨[E2, (28, vb x)], [], H⟩ : St)) (fun x => Hs p0 x = some ra) ?_ ?_
 rintro j21 hF
 replace hF : Hs p0 j21 = some ra := hF
 unfold Hs at hF
 exact ⟨j21, hF, (by kernel_rfl)⟩
 rcases Ae hF with ⟨h22, hF⟩ | ⟨h22, hF⟩
 refine yT h22 S14 ?_
 refine Ao ?_
 exact ⟨(p0 == 27), hF, (by kernel_rfl)⟩
 refine yF h22 S6 ?_
 refine ysg S15 ?_
 refine As (α := (Bool)) (fun x => (⟨[E2, (28, vb x)], [], H⟩ : St)) (fun x => Ht p0 x = some ra) ?_ ?_
 rintro j23 hF
 replace hF : Ht p0 j23 = some ra := hF
 unfold Ht at hF
 exact ⟨j23, hF, (by kernel_rfl)⟩
 rcases Ae hF with ⟨h24, hF⟩ | ⟨h24, hF⟩
 refine yT h24 S15 ?_
 refine Ao ?_
 exact ⟨(p0 == 29), hF, (by kernel_rfl)⟩
 refine yF h24 S6 ?_
 refine ysg S16 ?_
 refine As (α := (Bool)) (fun x => (⟨[E2, (28, vb x)], [], H⟩ : St)) (fun x => F3 p0 x = some ra) ?_ ?_
 rintro j25 hF
 replace hF : F3 p0 j25 = some ra := hF
 unfold F3 at hF
 exact ⟨j25, hF, (by kernel_rfl)⟩
 rcases Ae hF with ⟨h26, hF⟩ | ⟨h26, hF⟩
 refine yT h26 S16 ?_
 refine Ao ?_
 exact ⟨(p0 == 31), hF, (by kernel_rfl)⟩
 refine yF h26 S6 ?_
 refine yg ⟨[E2, (28, vb (p0 == 32))], [], H⟩ ?_
 exact ⟨(p0 == 32), hF, (by kernel_rfl)⟩
 rcases Ae hF with ⟨h27, hF⟩ | ⟨h27, hF⟩
 refine yT h27 S10 ?_
 refine Ao ?_
 exact ⟨(p0 == 4), hF, (by kernel_rfl)⟩
 refine yF h27 S6 ?_
 refine ysg S17 ?_
 refine As (α := (Bool)) (fun x => (⟨[E2, (24, vb x)], [], H⟩ : St)) (fun x => F4 p0 x = some ra) ?_ ?_
 rintro j28 hF
 replace hF : F4 p0 j28 = some ra := hF
 unfold F4 at hF
 exact ⟨j28, hF, (by kernel_rfl)⟩
 rcases Ae hF with ⟨h29, hF⟩ | ⟨h29, hF⟩
 refine yT h29 S17 ?_
 refine Ao ?_
 exact ⟨(p0 == 26), hF, (by kernel_rfl)⟩
 refine yF h29 S6 ?_
 refine yg ⟨[E2, (24, vb (p0 == 34))], [], H⟩ ?_
 exact ⟨(p0 == 34), hF, (by kernel_rfl)⟩
 rcases Ae hF with ⟨h30, hF⟩ | ⟨h30, hF⟩
 refine yT h30 S9 ?_
 refine Ao ?_
 exact ⟨(p0 == 5), hF, (by kernel_rfl)⟩
 refine yF h30 S6 ?_
 refine ysg S18 ?_
 refine As (α := (Bool)) (fun x => (⟨[E2, (20, vb x)], [], H⟩ : St)) (fun x => F5 p0 x = some ra) ?_ ?_
 rintro j31 hF
 replace hF : F5 p0 j31 = some ra := hF
 unfold F5 at hF
 exact ⟨j31, hF, (by kernel_rfl)⟩
 rcases Ae hF with ⟨h32, hF⟩ | ⟨h32, hF⟩
 refine yT h32 S18 ?_
 refine Ao ?_
 exact ⟨(p0 == 18), hF, (by kernel_rfl)⟩
 refine yF h32 S6 ?_
 refine yg ⟨[E2, (20, vb (p0 == 19))], [], H⟩ ?_
 exact ⟨(p0 == 19), hF, (by kernel_rfl)⟩
 rcases Ae hF with ⟨h33, hF⟩ | ⟨h33, hF⟩
 refine yT h33 S8 ?_
 refine Ao ?_
 exact ⟨(p0 == 3), hF, (by kernel_rfl)⟩
 refine yF h33 S6 ?_
 refine ysg S19 ?_
 refine As (α := (Bool)) (fun x => (⟨[E2, (16, vb x)], [], H⟩ : St)) (fun x => F6 p0 x = some ra) ?_ ?_
 rintro j34 hF
 replace hF : F6 p0 j34 = some ra := hF
 unfold F6 at hF
 exact ⟨j34, hF, (by kernel_rfl)⟩
 rcases Ae hF with ⟨h35, hF⟩ | ⟨h35, hF⟩
 refine yT h35 S19 ?_
 refine Ao ?_
 exact ⟨(p0 == 30), hF, (by kernel_rfl)⟩
 refine yF h35 S6 ?_
 refine yg ⟨[E2, (16, vb (p0 == 33))], [], H⟩ ?_
 exact ⟨(p0 == 33), hF, (by kernel_rfl)⟩
 rcases Ae hF with ⟨h36, hF⟩ | ⟨h36, hF⟩
 refine yT h36 S7 ?_
 refine Ao ?_
 exact ⟨(p0 == 2), hF, (by kernel_rfl)⟩
 refine yF h36 S6 ?_
 refine ysg S20 ?_
 refine As (α := (Bool)) (fun x => (⟨[E2, (12, vb x)], [], H⟩ : St)) (fun x => F7 p0 x = some ra) ?_ ?_
 rintro j37 hF
 replace hF : F7 p0 j37 = some ra := hF
 unfold F7 at hF
 exact ⟨j37, hF, (by kernel_rfl)⟩
 rcases Ae hF with ⟨h38, hF⟩ | ⟨h38, hF⟩
 refine yT h38 S20 ?_
 refine Ao ?_
 exact ⟨(p0 == 20), hF, (by kernel_rfl)⟩
 refine yF h38 S6 ?_
 refine yg ⟨[E2, (12, vb (p0 == 21))], [], H⟩ ?_
 exact ⟨(p0 == 21), hF, (by kernel_rfl)⟩
noncomputable def Ln  (p0 : Int) : Option (Bool × Bool × Bool) :=
  some (((decide (p0 ≥ 1)) && (decide (p0 ≤ 6))), ((decide (p0 ≥ 3)) && (decide (p0 ≤ 5))), (p0 == 5))
theorem Ur (H : Ah) {p0 : Int} {ra : Bool} {rb : Bool} {rc : Bool} (hF : Ln p0 = some (ra, rb, rc)) : evS X 114 [.one .top (.int .i64 p0)] H = some (.tup [.one .top (.bool ra), .one .top (.bool rb), .one .top (.bool rc)], H) := by
 let E1 : EN := (0, vi p0)
 let E2 : EN := (7, vi p0)
 let E3 : EN := (13, vi p0)
 let L4 : List EN := [E1, (5, vb ((decide (p0 ≥ 1)) && (decide (p0 ≤ 6))))]
 refine yf Try.func114 true ⟨[E1], [], H⟩ ?_
 unfold Ln at hF
 refine ysg ⟨[E1], [], H⟩ ?_
 refine yso ⟨L4, [], H⟩ ?_ ?_
 refine yr 3 ⟨[E1, E2, (8, vb (decide (p0 ≥ 1))), (9, vb (decide (p0 ≥ 1)))], [], H⟩ ?_
 rcases Ax (decide (p0 ≥ 1)) with h1 | h1
 refine Bd (congrArg (fun q => (⟨[E1, E2, (8, vb q), (9, vb q)], [], H⟩ : St)) h1) ?_
 refine yr 4 ⟨[E1, (5, vb (decide (p0 ≤ 6))), E2, (8, vT), (9, vT), (10, vi p0), (11, vb (decide (p0 ≤ 6))), (12, vb (decide (p0 ≤ 6)))], [], H⟩ ?_
 refine Bw (congrArg (fun q0 => (⟨[E1, (5, vb q0)], [], H⟩ : St)) (show (decide (p0 ≤ 6)) = ((decide (p0 ≥ 1)) && (decide (p0 ≤ 6))) by simp [h1])) ?_
 exact ye
 refine Bd (congrArg (fun q => (⟨[E1, E2, (8, vb q), (9, vb q)], [], H⟩ : St)) h1) ?_
 refine yr 4 ⟨[E1, (5, vF), E2, (8, vF), (9, vF), (10, vN), (11, vN), (12, vF)], [], H⟩ ?_
 refine Bw (congrArg (fun q0 => (⟨[E1, (5, vb q0)], [], H⟩ : St)) (show false = ((decide (p0 ≥ 1)) && (decide (p0 ≤ 6))) by simp [h1])) ?_
 exact ye
 refine yso ⟨L4 ++ [(6, vb ((decide (p0 ≥ 3)) && (decide (p0 ≤ 5))))], [], H⟩ ?_ ?_
 refine yr 3 ⟨L4 ++ [E3, (14, vb (decide (p0 ≥ 3))), (15, vb (decide (p0 ≥ 3)))], [], H⟩ ?_
 rcases Ax (decide (p0 ≥ 3)) with h2 | h2
 refine Bd (congrArg (fun q => (⟨L4 ++ [E3, (14, vb q), (15, vb q)], [], H⟩ : St)) h2) ?_
 refine yr 4 ⟨L4 ++ [(6, vb (decide (p0 ≤ 5))), E3, (14, vT), (15, vT), (16, vi p0), (17, vb (decide (p0 ≤ 5))), (18, vb (decide (p0 ≤ 5)))], [], H⟩ ?_
 refine Bw (congrArg (fun q0 => (⟨L4 ++ [(6, vb q0)], [], H⟩ : St)) (show (decide (p0 ≤ 5)) = ((decide (p0 ≥ 3)) && (decide (p0 ≤ 5))) by simp [h2])) ?_
 exact ye
 refine Bd (congrArg (fun q => (⟨L4 ++ [E3, (14, vb q), (15, vb q)], [], H⟩ : St)) h2) ?_
 refine yr 4 ⟨L4 ++ [(6, vF), E3, (14, vF), (15, vF), (16, vN), (17, vN), (18, vF)], [], H⟩ ?_
 refine Bw (congrArg (fun q0 => (⟨L4 ++ [(6, vb q0)], [], H⟩ : St)) (show false = ((decide (p0 ≥ 3)) && (decide (p0 ≤ 5))) by simp [h2])) ?_
 exact ye
 refine ysg ⟨[(2, vb ((decide (p0 ≥ 1)) && (decide (p0 ≤ 6)))), (3, vb ((decide (p0 ≥ 3)) && (decide (p0 ≤ 5)))), (4, vb (p0 == 5))], [], H⟩ ?_
 refine Au ?_
 obtain ⟨e0, e1, e2⟩ := U6 hF
 subst e0
 subst e1
 subst e2
 exact yp (.tup [vb ((decide (p0 ≥ 1)) && (decide (p0 ≤ 6))), vb ((decide (p0 ≥ 3)) && (decide (p0 ≤ 5))), vb (p0 == 5)])
end Go.Proofs.Abs
