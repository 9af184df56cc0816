import Derived.Test.YtjheniapmdcelaaCpuStepsF0
set_option linter.unusedVariables false
set_option linter.unusedSimpArgs false
set_option linter.unusedSectionVars false
namespace Go.Proofs.Abs
open Go Go.Proofs
set_option linter.unusedVariables false
set_option maxRecDepth 100000
set_option maxHeartbeats 0
noncomputable def Gy (H8 : Ai) : Option (Ai) :=
  some H8
noncomputable def Gz (H12 : Ai) : Option (Ai) :=
  Gy H12
noncomputable def G0 (H16 : Ai) : Option (Ai) :=
  Gz H16
noncomputable def G4 (H26 : Ai) : Option (Ai) :=
  G0 H26
noncomputable def G5 (H42 : Ai) : Option (Ai) :=
  G4 H42
noncomputable def G6 (H46 : Ai) : Option (Ai) :=
  G5 H46
noncomputable def G7 (H53 : Ai) : Option (Ai) :=
  G5 H53
noncomputable def Cv (x4 : T_cpu_Cpu) (p2 : T_instr_Instr) (H : Ai) (i1 : Nat) (o2 : Nat) (j41 : Bool) : Option (Ai) :=
  if j41 = true then (Ag (ga x4.R_ p2.A_) fun v44 =>
  if ((v44 == 0) == (p2.Op_ == 20)) = true then (Ag (F5 H (Ptr.at i1 o2) p2.Imm_) fun H49 =>
  G6 H49)
  else (bnd (Bj H i1 o2 (T_cpu_Cpu.mk x4.R_ (IntKind.wrap .u32 (x4.PC_ + 4)) x4.EPC_ x4.Cause_ x4.State_ x4.Why_ x4.Steps_ x4.Taken_ x4.Out_ x4.setup_ x4.input_)) fun H50 =>
  G6 H50))
  else (if (p2.Op_ == 23) = true then (bnd (Bj H i1 o2 (T_cpu_Cpu.mk (Ho [(x4.R_.g 0), (x4.R_.g 1), (x4.R_.g 2), (x4.R_.g 3), (x4.R_.g 4), (x4.R_.g 5), (x4.R_.g 6), (x4.R_.g 7), (x4.R_.g 8), (x4.R_.g 9), (x4.R_.g 10), (x4.R_.g 11), (x4.R_.g 12), (x4.R_.g 13), (IntKind.wrap .u32 (x4.PC_ + 4)), (x4.R_.g 15)] : Arr 16 Int) x4.PC_ x4.EPC_ x4.Cause_ x4.State_ x4.Why_ x4.Steps_ x4.Taken_ x4.Out_ x4.setup_ x4.input_)) fun H55 =>
  Ag (F5 H55 (Ptr.at i1 o2) p2.Imm_) fun H59 =>
  G7 H59)
  else (Ag (F5 H (Ptr.at i1 o2) p2.Imm_) fun H61 =>
  G7 H61))
noncomputable def Bh (H : Ai) (p0 : Ptr) (p1 : Ptr) (p2 : T_instr_Instr) : Option (Ai) :=
  (p0).bnd fun i1 o2 =>
  Ag (Ba H i1 o2) fun x4 =>
  Ag (ga x4.R_ p2.B_) fun v6 =>
  if (p2.Op_ == 2) = true then (Ag (Be H (Ptr.at i1 o2) p2.A_ (IntKind.wrap .u32 p2.Imm_)) fun H11 =>
  Gy H11)
  else (if (p2.Op_ == 5) = true then (Ag (Be H (Ptr.at i1 o2) p2.A_ (IntKind.wrap .u32 (v6 + (IntKind.wrap .u32 p2.Imm_)))) fun H15 =>
  Gz H15)
  else (if (p2.Op_ == 18) = true then (Ch (Ef H p1 (IntKind.wrap .u32 (v6 + (IntKind.wrap .u32 p2.Imm_)))) fun r18 r19 =>
  if (r19 != 0) = true then (Ag (Bq H (Ptr.at i1 o2) r19) fun H23 =>
  some H23)
  else (Ag (Be H (Ptr.at i1 o2) p2.A_ r18) fun H25 =>
  G0 H25))
  else (if (p2.Op_ == 19) = true then (Ag (ga x4.R_ p2.A_) fun v28 =>
  Ch (Dw H p1 (IntKind.wrap .u32 (v6 + (IntKind.wrap .u32 p2.Imm_))) v28) fun H32 r30 =>
  if (r30 != 0) = true then (Ag (Bq H32 (Ptr.at i1 o2) r30) fun H35 =>
  some H35)
  else (Ag (Ba H32 i1 o2) fun x36 =>
  bnd (Bj H32 i1 o2 (T_cpu_Cpu.mk x36.R_ (IntKind.wrap .u32 (x36.PC_ + 4)) x36.EPC_ x36.Cause_ x36.State_ x36.Why_ x36.Steps_ x36.Taken_ x36.Out_ x36.setup_ x36.input_)) fun H38 =>
  G4 H38))
  else (if (p2.Op_ == 20) = true then (Cv x4 p2 H i1 o2 (p2.Op_ == 20))
  else (Cv x4 p2 H i1 o2 (p2.Op_ == 21))))))
theorem U6 (H : Ai) {p0 : Ptr} {p1 : Ptr} {p2 : T_instr_Instr} {Hr : Ai} (hF : Bh H p0 p1 p2 = some Hr) : evS X 104 [.one .top (Ptr.av p0), .one .top (Ptr.av p1), .agg (Aq p2)] H = some (.tup [], Hr) := by
 let E4 : Ptr → EN := fun z0 => (0, vp z0)
 let B5 : EB := (5, (Aq p2))
 let E6 : EN := (11, vl 5 2)
 let E7 : EN := (12, vi p2.B_)
 let E10 : EN := (18, vi p2.Imm_)
 let E11 : EN := (19, vu (IntKind.wrap .u32 p2.Imm_))
 let E16 : Ptr → EN := fun z0 => (46, vp z0)
 let E20 : Ptr → EN := fun z0 => (63, vp z0)
 let E23 : EN := (67, vi p2.A_)
 let E28 : EN := (90, vi p2.A_)
 let E30 : EN := (96, vl 5 0)
 let E31 : EN := (97, vi p2.Op_)
 let L37 : Ptr → List EN := fun z0 => [(1, vp z0), (5, vl 5 0)]
 refine yf Try.func104 false ⟨[(E4 p0), (1, vp p1), (2, .agg (Aq p2))], [], H⟩ ?_
 unfold Bh at hF
 refine ysg ⟨[(E4 p0)] ++ (L37 p1), [B5], H⟩ ?_ (h := (by generalize p0 = qp0; generalize p1 = qp1; cases qp0 <;> cases qp1 <;> kernel_rfl))
 refine Ah ?_
 obtain ⟨i1, o2, h3, hF⟩ := Br hF
 let E8 : EN := (0, vo i1 o2)
 let E9 : EN := (15, vo i1 (o2 + Int.toNat p2.B_))
 let E22 : EN := (65, vo i1 o2)
 let E24 : EN := (68, vo i1 o2)
 let E25 : EN := (70, vo i1 (o2 + Int.toNat p2.A_))
 let E29 : EN := (93, vo i1 (o2 + Int.toNat p2.A_))
 let E32 : EN := (113, vo i1 o2)
 let E33 : EN := (114, vo i1 o2)
 let L36 : List EN := [E8, (5, vl 5 0)]
 let L39 : List EN := L36 ++ [(88, vo i1 o2), (89, vl 5 1)]
 let L40 : List EN := [(10, vo i1 o2), E6, E7, (13, vo i1 o2)]
 let L42 : List EN := L36 ++ [E32, E33, (115, vo i1 o2), (116, vo i1 (o2 + 16))]
 let L43 : List EN := L39 ++ [E28, (91, vo i1 o2), (92, vo i1 o2)]
 let L44 : Ptr → List EN := fun z0 => [E8] ++ (L37 z0) ++ L40 ++ [(14, vo i1 o2)]
 let L45 : List EN := [(119, vo i1 o2), (120, vo i1 o2)]
 let L47 : List EN := L36 ++ [(22, vi p2.Op_)]
 let L49 : List EN := [E8, (78, vo i1 o2), (79, vo i1 o2), (80, vo i1 (o2 + 16))]
 let L50 : List EN := [E8, (104, vo i1 o2), (105, vo i1 o2), (106, vo i1 (o2 + 16))]
 let L58 : List EN := L36 ++ [(29, vo i1 o2), (30, vl 5 1), (31, vi p2.A_), (32, vl 5 4), (33, vi p2.Imm_), (34, vu (IntKind.wrap .u32 p2.Imm_))]
 let L59 : List EN := L36 ++ [(100, vo i1 o2), (101, vl 5 4), (102, vi p2.Imm_)]
 let L60 : List EN := L36 ++ [(122, vo i1 o2), (123, vl 5 4), (124, vi p2.Imm_)]
 let L61 : List EN := L36 ++ [(23, vo i1 o2), (24, vl 5 4), (25, vi p2.Imm_)]
 obtain ⟨x4, V5, hF⟩ := Ab hF
 replace V5 := A8 V5
 let W1 : Ai := Dp H i1 o2 (arM .u32 14 x4.R_ ++ [(.top, .int .u32 (IntKind.wrap .u32 (x4.PC_ + 4))), (.top, .int .u32 (x4.R_.g 15)), (.top, .int .u32 x4.PC_), (.top, .int .u32 x4.EPC_), (.top, .int .u32 x4.Cause_), (.top, .int .i64 x4.State_), (.top, .int .i64 x4.Why_), (.top, .int .i64 x4.Steps_), (.top, .int .i64 x4.Taken_), ((.own 1), .sl 2 (List.map Ae x4.Out_)), (.top, .int .u32 x4.setup_.Entry_), (.top, .int .u32 x4.setup_.Vector_), (.top, .int .u32 x4.setup_.Guard_), (.top, .int .u32 x4.setup_.Limit_), ((.own 1), .sl 1 (List.map (eI .i32) x4.input_))])
 let W3 : Ai := Dp H i1 o2 (arM .u32 16 x4.R_ ++ [(.top, .int .u32 (IntKind.wrap .u32 (x4.PC_ + 4))), (.top, .int .u32 x4.EPC_), (.top, .int .u32 x4.Cause_), (.top, .int .i64 x4.State_), (.top, .int .i64 x4.Why_), (.top, .int .i64 x4.Steps_), (.top, .int .i64 x4.Taken_), ((.own 1), .sl 2 (List.map Ae x4.Out_)), (.top, .int .u32 x4.setup_.Entry_), (.top, .int .u32 x4.setup_.Vector_), (.top, .int .u32 x4.setup_.Guard_), (.top, .int .u32 x4.setup_.Limit_), ((.own 1), .sl 1 (List.map (eI .i32) x4.input_))])
 let E34 : EN := (117, vu x4.PC_)
 let E35 : EN := (118, vu (IntKind.wrap .u32 (x4.PC_ + 4)))
 let L53 : List EN := L42 ++ [E34, E35] ++ L45 ++ [(121, vo i1 (o2 + 14))]
 let L55 : List EN := L50 ++ [(107, vu x4.PC_), (108, vu (IntKind.wrap .u32 (x4.PC_ + 4))), (109, vo i1 o2), (110, vo i1 (o2 + 16))]
 obtain ⟨v6, h7, hF⟩ := Ab hF
 let E12 : EN := (20, vu (IntKind.wrap .u32 (v6 + (IntKind.wrap .u32 p2.Imm_))))
 let E13 : EN := (6, vu (IntKind.wrap .u32 (v6 + (IntKind.wrap .u32 p2.Imm_))))
 let E17 : EN := (47, vu (IntKind.wrap .u32 (v6 + (IntKind.wrap .u32 p2.Imm_))))
 let E21 : EN := (64, vu (IntKind.wrap .u32 (v6 + (IntKind.wrap .u32 p2.Imm_))))
 let L38 : Ptr → List EN := fun z0 => [E8] ++ (L37 z0) ++ [E13]
 let L41 : Ptr → List EN := fun z0 => (L38 z0) ++ [(E20 z0), E21, E22, (66, vl 5 1)]
 let L46 : Ptr → List EN := fun z0 => (L38 z0) ++ [(22, vi p2.Op_)]
 let L48 : Ptr → List EN := fun z0 => (L41 z0) ++ [E23, E24, (69, vo i1 o2)]
 let L52 : Ptr → List EN := fun z0 => (L44 z0) ++ [E9, (16, vu v6), (17, vl 5 4)]
 let L63 : List EN := L36 ++ [E13, (38, vo i1 o2), (39, vl 5 1), (40, vi p2.A_), (41, vu (IntKind.wrap .u32 (v6 + (IntKind.wrap .u32 p2.Imm_))))]
 refine Bn (.take 0 (.take 1 (.take 2 (.take 3 (.take 4 (.take 5 (.take 6 (.take 7 (.take 8 (.take 9 (.take 10 (.take 11 .done)))))))))))) (by kernel_rfl) (⟨(L38 p1), [B5], H⟩ : St) ?_ ?_
 refine Ao ⟨[(E4 p0)] ++ (L37 p1) ++ [(10, vp p0)], [B5], H⟩ (by generalize p0 = qp0; generalize p1 = qp1; cases qp0 <;> cases qp1 <;> kernel_rfl) ?_
 refine Ao ⟨[(E4 p0)] ++ (L37 p1) ++ [(10, vp p0), E6], [B5], H⟩ (by generalize p0 = qp0; generalize p1 = qp1; cases qp0 <;> cases qp1 <;> kernel_rfl) ?_
 refine Ao ⟨[(E4 p0)] ++ (L37 p1) ++ [(10, vp p0), E6, E7], [B5], H⟩ (by generalize p0 = qp0; generalize p1 = qp1; cases qp0 <;> cases qp1 <;> kernel_rfl) ?_
 refine Fe (congrArg (fun q => (⟨[(0, vp q)] ++ (L37 p1) ++ [(10, vp q), E6, E7], [B5], H⟩ : St)) h3) ?_
 refine Ao ⟨[E8] ++ (L37 p1) ++ L40, [B5], H⟩ (by generalize p1 = qp0; cases qp0 <;> kernel_rfl) ?_
 refine Ao ⟨(L44 p1), [B5], H⟩ (by generalize p1 = qp0; cases qp0 <;> kernel_rfl) ?_
 refine Ao ⟨(L44 p1) ++ [E9], [B5], H⟩ (Kv (X := X) (⟨(L44 p1), [B5], H⟩ : St) 46 35 16 h7 i1 o2 (some 15) (by generalize p1 = qp0; cases qp0 <;> kernel_rfl) (by generalize p1 = qp0; cases qp0 <;> kernel_rfl) (by generalize p1 = qp0; cases qp0 <;> kernel_rfl) (by generalize p1 = qp0; cases qp0 <;> kernel_rfl)) ?_
 refine Ao ⟨(L44 p1) ++ [E9, (16, vu v6)], [B5], H⟩ (Kj (X := X) (⟨(L44 p1) ++ [E9], [B5], H⟩ : St) 35 16 h7 V5 0 (fun q => .int .u32 q) (some 16) (by generalize p1 = qp0; cases qp0 <;> kernel_rfl) (by generalize p1 = qp0; cases qp0 <;> kernel_rfl) (by generalize p1 = qp0; cases qp0 <;> kernel_rfl) (by generalize p1 = qp0; cases qp0 <;> kernel_rfl) (by generalize p1 = qp0; cases qp0 <;> kernel_rfl) (by generalize p1 = qp0; cases qp0 <;> kernel_rfl)) ?_
 refine Ao ⟨(L52 p1), [B5], H⟩ (by generalize p1 = qp0; cases qp0 <;> kernel_rfl) ?_
 refine Ao ⟨(L52 p1) ++ [E10], [B5], H⟩ (by generalize p1 = qp0; cases qp0 <;> kernel_rfl) ?_
 refine Ao ⟨(L52 p1) ++ [E10, E11], [B5], H⟩ (by generalize p1 = qp0; cases qp0 <;> kernel_rfl) ?_
 refine Ao ⟨(L52 p1) ++ [E10, E11, E12], [B5], H⟩ (by generalize p1 = qp0; cases qp0 <;> kernel_rfl) ?_
 refine Ao ⟨(L38 p1) ++ L40 ++ [(14, vo i1 o2), E9, (16, vu v6), (17, vl 5 4), E10, E11, E12], [B5], H⟩ (by generalize p1 = qp0; cases qp0 <;> kernel_rfl) ?_
 exact yde
 refine ysg ⟨(L46 p1), [B5], H⟩ ?_ (h := (by generalize p1 = qp0; cases qp0 <;> kernel_rfl))
 refine Bs ?_
 refine ysg ⟨(L46 p1) ++ [(27, vb (p2.Op_ == 2))], [B5], H⟩ ?_ (h := (by generalize p1 = qp0; cases qp0 <;> kernel_rfl))
 refine Ar (α := (Ai)) (fun x => (⟨[], [], x⟩ : St)) (fun x => Gy x = some Hr) ?_ ?_
 rintro H8 hF
 replace hF : Gy H8 = some Hr := hF
 unfold Gy at hF
 obtain e0 := Al hF
 subst e0
 exact yi (vN)
 rcases Af hF with ⟨h9, hF⟩ | ⟨h9, hF⟩
 refine yT h9 ⟨L36, [B5], H⟩ ?_
 obtain ⟨H11, c10, hF⟩ := Ab hF
 refine Ak ⟨[], [], H11⟩ ?_ ?_
 refine yr 6 ⟨L58, [B5], H⟩ ?_
 refine Aj ⟨L58 ++ [(35, vN)], [B5], H11⟩ (yc (some 35) false false (⟨L58, [B5], H⟩ : St) (Bf H c10)) ?_
 exact ye
 exact ⟨H11, hF, (by kernel_rfl)⟩
 refine yF h9 ⟨(L46 p1), [B5], H⟩ ?_
 refine ysg ⟨(L46 p1) ++ [(36, vb (p2.Op_ == 5))], [B5], H⟩ ?_ (h := (by generalize p1 = qp0; cases qp0 <;> kernel_rfl))
 refine Ar (α := (Ai)) (fun x => (⟨[], [], x⟩ : St)) (fun x => Gz x = some Hr) ?_ ?_
 rintro H12 hF
 replace hF : Gz H12 = some Hr := hF
 unfold Gz at hF
 exact ⟨H12, hF, (by kernel_rfl)⟩
 rcases Af hF with ⟨h13, hF⟩ | ⟨h13, hF⟩
 refine yT h13 ⟨L36 ++ [E13], [B5], H⟩ ?_
 obtain ⟨H15, c14, hF⟩ := Ab hF
 refine Ak ⟨[], [], H15⟩ ?_ ?_
 refine yr 4 ⟨L63, [B5], H⟩ ?_
 refine Aj ⟨L63 ++ [(42, vN)], [B5], H15⟩ (yc (some 42) false false (⟨L63, [B5], H⟩ : St) (Bf H c14)) ?_
 exact ye
 exact ⟨H15, hF, (by kernel_rfl)⟩
 refine yF h13 ⟨(L46 p1), [B5], H⟩ ?_
 refine ysg ⟨(L46 p1) ++ [(43, vb (p2.Op_ == 18))], [B5], H⟩ ?_ (h := (by generalize p1 = qp0; cases qp0 <;> kernel_rfl))
 refine Ar (α := (Ai)) (fun x => (⟨[], [], x⟩ : St)) (fun x => G0 x = some Hr) ?_ ?_
 rintro H16 hF
 replace hF : G0 H16 = some Hr := hF
 unfold G0 at hF
 exact ⟨H16, hF, (by kernel_rfl)⟩
 rcases Af hF with ⟨h17, hF⟩ | ⟨h17, hF⟩
 refine yT h17 ⟨(L38 p1), [B5], H⟩ ?_
 refine Ah ?_
 obtain ⟨r18, r19, c20, hF⟩ := Bg hF
 let E14 : EN := (7, vu r18)
 let E15 : EN := (8, vi r19)
 let E18 : EN := (48, .tup [vu r18, vi r19])
 let L57 : List EN := [E8, E15, (53, vo i1 o2), (54, vi r19)]
 let L62 : List EN := L36 ++ [E14, (56, vo i1 o2), (57, vl 5 1), (58, vi p2.A_), (59, vu r18)]
 refine Ak ⟨L36 ++ [E14, E15], [B5], H⟩ ?_ ?_
 refine yr 2 ⟨(L38 p1) ++ [(E16 p1), E17], [B5], H⟩ ?_ (h := (by generalize p1 = qp0; cases qp0 <;> kernel_rfl))
 refine Aj ⟨(L38 p1) ++ [(E16 p1), E17, E18], [B5], H⟩ (yc (some 48) true false (⟨(L38 p1) ++ [(E16 p1), E17], [B5], H⟩ : St) (Ou H c20) (hr := (by generalize p1 = qp0; cases qp0 <;> kernel_rfl)) (hs := (by generalize p1 = qp0; cases qp0 <;> kernel_rfl))) ?_
 refine yr 5 ⟨(L38 p1) ++ [E14, E15, (45, .tup [vu r18, vi r19]), (E16 p1), E17, E18, (49, vu r18), (50, vi r19)], [B5], H⟩ ?_ (h := (by generalize p1 = qp0; cases qp0 <;> kernel_rfl))
 exact ye
 refine Ah ?_
 refine ysg ⟨L36 ++ [E14, E15, (52, vb (r19 != 0))], [B5], H⟩ ?_
 rcases Af hF with ⟨h21, hF⟩ | ⟨h21, hF⟩
 refine yT h21 ⟨[E8, E15], [], H⟩ ?_
 refine Ah ?_
 obtain ⟨H23, c22, hF⟩ := Ab hF
 refine Ak ⟨[], [], H23⟩ ?_ ?_
 refine yr 2 ⟨L57, [], H⟩ ?_
 refine Aj ⟨L57 ++ [(55, vN)], [], H23⟩ (yc (some 55) false false (⟨L57, [], H⟩ : St) (Ff H c22)) ?_
 exact ye
 refine As ?_
 obtain e0 := Al hF
 subst e0
 exact yi (vN)
 refine yF h21 ⟨L36 ++ [E14], [B5], H⟩ ?_
 refine Am ?_
 obtain ⟨H25, c24, hF⟩ := Ab hF
 refine Ak ⟨[], [], H25⟩ ?_ ?_
 refine yr 4 ⟨L62, [B5], H⟩ ?_
 refine Aj ⟨L62 ++ [(60, vN)], [B5], H25⟩ (yc (some 60) false false (⟨L62, [B5], H⟩ : St) (Bf H c24)) ?_
 exact ye
 exact ⟨H25, hF, (by kernel_rfl)⟩
 refine yF h17 ⟨(L46 p1), [B5], H⟩ ?_
 refine ysg ⟨(L46 p1) ++ [(61, vb (p2.Op_ == 19))], [B5], H⟩ ?_ (h := (by generalize p1 = qp0; cases qp0 <;> kernel_rfl))
 refine Ar (α := (Ai)) (fun x => (⟨[], [], x⟩ : St)) (fun x => G4 x = some Hr) ?_ ?_
 rintro H26 hF
 replace hF : G4 H26 = some Hr := hF
 unfold G4 at hF
 exact ⟨H26, hF, (by kernel_rfl)⟩
 rcases Af hF with ⟨h27, hF⟩ | ⟨h27, hF⟩
 refine yT h27 ⟨(L38 p1), [B5], H⟩ ?_
 refine Ah ?_
 refine Ah ?_
 obtain ⟨v28, h29, hF⟩ := Ab hF
 let E26 : EN := (71, vu v28)
 obtain ⟨H32, r30, c31, hF⟩ := Bg hF
 let E19 : EN := (9, vi r30)
 let L56 : List EN := [E8, E19, (75, vo i1 o2), (76, vi r30)]
 refine Bn (.take 0 (.take 1 (.take 2 (.take 3 (.take 4 (.take 5 (.take 6 (.take 7 (.last 8 (.last 9 (.take 10 .done))))))))))) (by kernel_rfl) (⟨[E8, E19], [], H32⟩ : St) ?_ ?_
 refine Ao ⟨(L38 p1) ++ [(E20 p1)], [B5], H⟩ (by generalize p1 = qp0; cases qp0 <;> kernel_rfl) ?_
 refine Ao ⟨(L38 p1) ++ [(E20 p1), E21], [B5], H⟩ (by generalize p1 = qp0; cases qp0 <;> kernel_rfl) ?_
 refine Ao ⟨(L38 p1) ++ [(E20 p1), E21, E22], [B5], H⟩ (by generalize p1 = qp0; cases qp0 <;> kernel_rfl) ?_
 refine Ao ⟨(L41 p1), [B5], H⟩ (by generalize p1 = qp0; cases qp0 <;> kernel_rfl) ?_
 refine Ao ⟨(L41 p1) ++ [E23], [B5], H⟩ (by generalize p1 = qp0; cases qp0 <;> kernel_rfl) ?_
 refine Ao ⟨(L41 p1) ++ [E23, E24], [B5], H⟩ (by generalize p1 = qp0; cases qp0 <;> kernel_rfl) ?_
 refine Ao ⟨(L48 p1), [B5], H⟩ (by generalize p1 = qp0; cases qp0 <;> kernel_rfl) ?_
 refine Ao ⟨(L48 p1) ++ [E25], [B5], H⟩ (Kv (X := X) (⟨(L48 p1), [B5], H⟩ : St) 46 35 16 h29 i1 o2 (some 70) (by generalize p1 = qp0; cases qp0 <;> kernel_rfl) (by generalize p1 = qp0; cases qp0 <;> kernel_rfl) (by generalize p1 = qp0; cases qp0 <;> kernel_rfl) (by generalize p1 = qp0; cases qp0 <;> kernel_rfl)) ?_
 refine Bo ⟨(L48 p1) ++ [E25, E26], [B5], H⟩ (Kj (X := X) (⟨(L48 p1) ++ [E25], [B5], H⟩ : St) 35 16 h29 V5 0 (fun q => .int .u32 q) (some 71) (by generalize p1 = qp0; cases qp0 <;> kernel_rfl) (by generalize p1 = qp0; cases qp0 <;> kernel_rfl) (by generalize p1 = qp0; cases qp0 <;> kernel_rfl) (by generalize p1 = qp0; cases qp0 <;> kernel_rfl) (by generalize p1 = qp0; cases qp0 <;> kernel_rfl) (by generalize p1 = qp0; cases qp0 <;> kernel_rfl)) ?_
 refine Bo ⟨(L48 p1) ++ [E25, E26, (72, vi r30)], [B5], H32⟩ (yc (some 72) false false (⟨(L48 p1) ++ [E25, E26], [B5], H⟩ : St) (Sm H c31) (hr := (by generalize p1 = qp0; cases qp0 <;> kernel_rfl)) (hs := (by generalize p1 = qp0; cases qp0 <;> kernel_rfl))) ?_
 refine Ao ⟨(L38 p1) ++ [E19, (E20 p1), E21, E22, (66, vl 5 1), E23, E24, (69, vo i1 o2), E25, E26, (72, vi r30)], [B5], H32⟩ (by generalize p1 = qp0; cases qp0 <;> kernel_rfl) ?_
 exact yde
 refine ysg ⟨[E8, E19, (74, vb (r30 != 0))], [], H32⟩ ?_
 rcases Af hF with ⟨h33, hF⟩ | ⟨h33, hF⟩
 refine yT h33 ⟨[E8, E19], [], H32⟩ ?_
 refine Ah ?_
 obtain ⟨H35, c34, hF⟩ := Ab hF
 refine Ak ⟨[], [], H35⟩ ?_ ?_
 refine yr 2 ⟨L56, [], H32⟩ ?_
 refine Aj ⟨L56 ++ [(77, vN)], [], H35⟩ (yc (some 77) false false (⟨L56, [], H32⟩ : St) (Ff H32 c34)) ?_
 exact ye
 refine As ?_
 obtain e0 := Al hF
 subst e0
 exact yi (vN)
 refine yF h33 ⟨[E8], [], H32⟩ ?_
 refine Am ?_
 obtain ⟨x36, V37, hF⟩ := Ab hF
 replace V37 := A8 V37
 let W2 : Ai := Dp H32 i1 o2 (arM .u32 16 x36.R_ ++ [(.top, .int .u32 (IntKind.wrap .u32 (x36.PC_ + 4))), (.top, .int .u32 x36.EPC_), (.top, .int .u32 x36.Cause_), (.top, .int .i64 x36.State_), (.top, .int .i64 x36.Why_), (.top, .int .i64 x36.Steps_), (.top, .int .i64 x36.Taken_), ((.own 1), .sl 2 (List.map Ae x36.Out_)), (.top, .int .u32 x36.setup_.Entry_), (.top, .int .u32 x36.setup_.Vector_), (.top, .int .u32 x36.setup_.Guard_), (.top, .int .u32 x36.setup_.Limit_), ((.own 1), .sl 1 (List.map (eI .i32) x36.input_))])
 let L54 : List EN := L49 ++ [(81, vu x36.PC_), (82, vu (IntKind.wrap .u32 (x36.PC_ + 4))), (83, vo i1 o2), (84, vo i1 (o2 + 16))]
 obtain ⟨H38, h39, hF⟩ := Ci hF
 have V40 : Cq H38 i1 o2 29 = some (Bx (T_cpu_Cpu.mk x36.R_ (IntKind.wrap .u32 (x36.PC_ + 4)) x36.EPC_ x36.Cause_ x36.State_ x36.Why_ x36.Steps_ x36.Taken_ x36.Out_ x36.setup_ x36.input_)) := by rw [← h39]; exact Bt V37 rfl
 refine Ak ⟨[], [], H38⟩ ?_ ?_
 refine yr 2 ⟨[E8, (78, vo i1 o2), (79, vo i1 o2)], [], H32⟩ ?_
 refine yr 1 ⟨L49, [], H32⟩ ?_
 refine Aj ⟨L49 ++ [(81, vu x36.PC_)], [], H32⟩ (yd (X := X) (⟨L49, [], H32⟩ : St) 35 V37 16 1 false (vu x36.PC_) (some 81)) ?_
 refine yr 3 ⟨L54, [], H32⟩ ?_
 refine Aj ⟨L54, [], W2⟩ (Gp (X := X) (lc := []) (h2 := W2) (⟨L54, [], H32⟩ : St) 35 V37 16 1 (vu (IntKind.wrap .u32 (x36.PC_ + 4))) (by kernel_rfl) (by kernel_rfl) (by kernel_rfl) (by kernel_rfl) (by kernel_rfl) (by kernel_rfl) (Ca V37 (Nat.le_of_ble_eq_true rfl)) (by kernel_rfl)) ?_
 refine Bc (congrArg (fun q => (⟨L54, [], q⟩ : St)) h39) ?_
 exact ye
 exact ⟨H38, hF, (by kernel_rfl)⟩
 refine yF h27 ⟨L47, [B5], H⟩ ?_
 refine Ah ?_
 refine ysg ⟨L47 ++ [(85, vb (p2.Op_ == 20))], [B5], H⟩ ?_
 refine Ar (α := (Bool)) (fun x => (⟨L47 ++ [(85, vb x)], [B5], H⟩ : St)) (fun x => Cv x4 p2 H i1 o2 x = some Hr) ?_ ?_
 rintro j41 hF
 replace hF : Cv x4 p2 H i1 o2 j41 = some Hr := hF
 unfold Cv at hF
 refine Ar (α := (Ai)) (fun x => (⟨[], [], x⟩ : St)) (fun x => G5 x = some Hr) ?_ ?_
 rintro H42 hF
 replace hF : G5 H42 = some Hr := hF
 unfold G5 at hF
 exact ⟨H42, hF, (by kernel_rfl)⟩
 rcases Af hF with ⟨h43, hF⟩ | ⟨h43, hF⟩
 refine yT h43 ⟨L36, [B5], H⟩ ?_
 refine Ah ?_
 obtain ⟨v44, h45, hF⟩ := Ab hF
 let E27 : EN := (99, vb ((v44 == 0) == (p2.Op_ == 20)))
 let L51 : List EN := L43 ++ [E29, (94, vu v44), (95, vb (v44 == 0))]
 refine Bn (.take 0 (.take 1 (.take 2 (.take 3 (.take 4 (.take 5 (.take 6 (.take 7 (.take 8 (.take 9 (.take 10 (.take 11 .done)))))))))))) (by kernel_rfl) (⟨L36 ++ [E27], [B5], H⟩ : St) ?_ ?_
 refine ydk 5 ⟨L43, [B5], H⟩ ?_
 refine Ao ⟨L43 ++ [E29], [B5], H⟩ (Kv (X := X) (⟨L43, [B5], H⟩ : St) 46 35 16 h45 i1 o2 (some 93) (by kernel_rfl) (by kernel_rfl) (by kernel_rfl) (by kernel_rfl)) ?_
 refine Ao ⟨L43 ++ [E29, (94, vu v44)], [B5], H⟩ (Kj (X := X) (⟨L43 ++ [E29], [B5], H⟩ : St) 35 16 h45 V5 0 (fun q => .int .u32 q) (some 94) (by kernel_rfl) (by kernel_rfl) (by kernel_rfl) (by kernel_rfl) (by kernel_rfl) (by kernel_rfl)) ?_
 refine ydk 5 ⟨L51 ++ [E30, E31, (98, vb (p2.Op_ == 20)), E27], [B5], H⟩ ?_
 exact yde
 refine Ar (α := (Ai)) (fun x => (⟨[], [], x⟩ : St)) (fun x => G6 x = some Hr) ?_ ?_
 rintro H46 hF
 replace hF : G6 H46 = some Hr := hF
 unfold G6 at hF
 exact ⟨H46, hF, (by kernel_rfl)⟩
 rcases Af hF with ⟨h47, hF⟩ | ⟨h47, hF⟩
 refine yT h47 ⟨L36, [B5], H⟩ ?_
 obtain ⟨H49, c48, hF⟩ := Ab hF
 refine Ak ⟨[], [], H49⟩ ?_ ?_
 refine yr 3 ⟨L59, [B5], H⟩ ?_
 refine Aj ⟨L59 ++ [(103, vN)], [B5], H49⟩ (yc (some 103) false false (⟨L59, [B5], H⟩ : St) (N0 H c48)) ?_
 exact ye
 exact ⟨H49, hF, (by kernel_rfl)⟩
 refine yF h47 ⟨[E8], [], H⟩ ?_
 obtain ⟨H50, h51, hF⟩ := Ci hF
 have V52 : Cq H50 i1 o2 29 = some (Bx (T_cpu_Cpu.mk x4.R_ (IntKind.wrap .u32 (x4.PC_ + 4)) x4.EPC_ x4.Cause_ x4.State_ x4.Why_ x4.Steps_ x4.Taken_ x4.Out_ x4.setup_ x4.input_)) := by rw [← h51]; exact Bt V5 rfl
 refine Ak ⟨[], [], H50⟩ ?_ ?_
 refine yr 3 ⟨L50, [], H⟩ ?_
 refine Aj ⟨L50 ++ [(107, vu x4.PC_)], [], H⟩ (yd (X := X) (⟨L50, [], H⟩ : St) 35 V5 16 1 false (vu x4.PC_) (some 107)) ?_
 refine yr 3 ⟨L55, [], H⟩ ?_
 refine Aj ⟨L55, [], W3⟩ (Gp (X := X) (lc := []) (h2 := W3) (⟨L55, [], H⟩ : St) 35 V5 16 1 (vu (IntKind.wrap .u32 (x4.PC_ + 4))) (by kernel_rfl) (by kernel_rfl) (by kernel_rfl) (by kernel_rfl) (by kernel_rfl) (by kernel_rfl) (Ca V5 (Nat.le_of_ble_eq_true rfl)) (by kernel_rfl)) ?_
 refine Bc (congrArg (fun q => (⟨L55, [], q⟩ : St)) h51) ?_
 exact ye
 exact ⟨H50, hF, (by kernel_rfl)⟩
 refine yF h43 ⟨L47, [B5], H⟩ ?_
 refine ysg ⟨L36 ++ [(111, vb (p2.Op_ == 23))], [B5], H⟩ ?_
 refine Ar (α := (Ai)) (fun x => (⟨[], [], x⟩ : St)) (fun x => G7 x = some Hr) ?_ ?_
 rintro H53 hF
 replace hF : G7 H53 = some Hr := hF
 unfold G7 at hF
 exact ⟨H53, hF, (by kernel_rfl)⟩
 rcases Af hF with ⟨h54, hF⟩ | ⟨h54, hF⟩
 refine yT h54 ⟨L36, [B5], H⟩ ?_
 refine Ah ?_
 obtain ⟨H55, h56, hF⟩ := Ci hF
 have V57 : Cq H55 i1 o2 29 = some (Bx (T_cpu_Cpu.mk (Ho [(x4.R_.g 0), (x4.R_.g 1), (x4.R_.g 2), (x4.R_.g 3), (x4.R_.g 4), (x4.R_.g 5), (x4.R_.g 6), (x4.R_.g 7), (x4.R_.g 8), (x4.R_.g 9), (x4.R_.g 10), (x4.R_.g 11), (x4.R_.g 12), (x4.R_.g 13), (IntKind.wrap .u32 (x4.PC_ + 4)), (x4.R_.g 15)] : Arr 16 Int) x4.PC_ x4.EPC_ x4.Cause_ x4.State_ x4.Why_ x4.Steps_ x4.Taken_ x4.Out_ x4.setup_ x4.input_)) := by rw [← h56]; exact Bt V5 rfl
 refine Bn (.take 0 (.take 1 (.take 2 (.take 3 (.take 6 (.take 7 (.last 4 (.take 5 (.take 8 (.last 9 .done)))))))))) (by kernel_rfl) (⟨L36, [B5], H55⟩ : St) ?_ ?_
 refine ydk 6 ⟨L42 ++ L45, [B5], H⟩ ?_
 refine Bo ⟨L42 ++ [E34] ++ L45, [B5], H⟩ (yd (X := X) (⟨L42 ++ L45, [B5], H⟩ : St) 35 V5 16 1 false (vu x4.PC_) (some 117)) ?_
 refine ydk 2 ⟨L53, [B5], H⟩ ?_
 refine Bo ⟨L53, [B5], W1⟩ (Gp (X := X) (lc := [5]) (h2 := W1) (⟨L53, [B5], H⟩ : St) 35 V5 14 1 (vu (IntKind.wrap .u32 (x4.PC_ + 4))) (by kernel_rfl) (by kernel_rfl) (by kernel_rfl) (by kernel_rfl) (by kernel_rfl) (by kernel_rfl) (Ca V5 (Nat.le_of_ble_eq_true rfl)) (by kernel_rfl)) ?_
 refine Fe (congrArg (fun q => (⟨L53, [B5], q⟩ : St)) h56) ?_
 exact yde
 obtain ⟨H59, c58, hF⟩ := Ab hF
 refine Ak ⟨[], [], H59⟩ ?_ ?_
 refine yr 3 ⟨L60, [B5], H55⟩ ?_
 refine Aj ⟨L60 ++ [(125, vN)], [B5], H59⟩ (yc (some 125) false false (⟨L60, [B5], H55⟩ : St) (N0 H55 c58)) ?_
 exact ye
 exact ⟨H59, hF, (by kernel_rfl)⟩
 refine yF h54 ⟨L36, [B5], H⟩ ?_
 obtain ⟨H61, c60, hF⟩ := Ab hF
 refine Ak ⟨[], [], H61⟩ ?_ ?_
 refine yr 3 ⟨L61, [B5], H⟩ ?_
 refine Aj ⟨L61 ++ [(26, vN)], [B5], H61⟩ (yc (some 26) false false (⟨L61, [B5], H⟩ : St) (N0 H c60)) ?_
 exact ye
 exact ⟨H61, hF, (by kernel_rfl)⟩
 rcases Af hF with ⟨h62, hF⟩ | ⟨h62, hF⟩
 refine yT h62 ⟨L47 ++ [(85, vb (p2.Op_ == 20))], [B5], H⟩ ?_
 refine Am ?_
 exact ⟨(p2.Op_ == 20), hF, (by kernel_rfl)⟩
 refine yF h62 ⟨L47, [B5], H⟩ ?_
 refine yg ⟨L47 ++ [(85, vb (p2.Op_ == 21))], [B5], H⟩ ?_
 exact ⟨(p2.Op_ == 21), hF, (by kernel_rfl)⟩
noncomputable def Fk (H1 : Ai) : Option (Ai) :=
  some H1
noncomputable def Fl (H10 : Ai) : Option (Ai) :=
  Fk H10
noncomputable def Eg (H : Ai) (p0 : Ptr) (p1 : T_instr_Instr) : Option (Ai) :=
  if (p1.Imm_ == 0) = true then ((p0).bnd fun i3 o4 =>
  Ag (Ba H i3 o4) fun x6 =>
  Ag (Be H (Ptr.at i3 o4) p1.A_ x6.EPC_) fun H9 =>
  Fk H9)
  else (if (p1.Imm_ == 1) = true then ((p0).bnd fun i12 o13 =>
  Ag (Ba H i12 o13) fun x15 =>
  Ag (Be H (Ptr.at i12 o13) p1.A_ x15.Cause_) fun H18 =>
  Fl H18)
  else (Ag (Bq H p0 20) fun H20 =>
  Fl H20))
theorem Tr (H : Ai) {p0 : Ptr} {p1 : T_instr_Instr} {Hr : Ai} (hF : Eg H p0 p1 = some Hr) : evS X 128 [.one .top (Ptr.av p0), .agg (Aq p1)] H = some (.tup [], Hr) := by
 let E1 : Ptr → EN := fun z0 => (0, vp z0)
 let B2 : EB := (3, (Aq p1))
 let E3 : EN := (5, vi p1.Imm_)
 let E4 : Ptr → EN := fun z0 => (10, vp z0)
 let E5 : EN := (11, vl 3 1)
 let E6 : EN := (12, vi p1.A_)
 let E7 : EN := (3, vl 3 0)
 let E10 : Ptr → EN := fun z0 => (20, vp z0)
 let E11 : EN := (21, vl 3 1)
 let E12 : EN := (22, vi p1.A_)
 let L15 : Ptr → List EN := fun z0 => [(E1 z0), E7]
 let S18 : Ptr → St := fun z0 => ⟨[(E1 z0), (6, vp z0)], [], H⟩
 refine yf Try.func128 false ⟨[(E1 p0), (1, .agg (Aq p1))], [], H⟩ ?_
 unfold Eg at hF
 refine ysg ⟨(L15 p0), [B2], H⟩ ?_ (h := (by generalize p0 = qp0; cases qp0 <;> kernel_rfl))
 refine ysg ⟨(L15 p0) ++ [E3], [B2], H⟩ ?_ (h := (by generalize p0 = qp0; cases qp0 <;> kernel_rfl))
 refine Bs ?_
 refine ysg ⟨(L15 p0) ++ [E3, (8, vb (p1.Imm_ == 0))], [B2], H⟩ ?_ (h := (by generalize p0 = qp0; cases qp0 <;> kernel_rfl))
 refine Ar (α := (Ai)) (fun x => (⟨[], [], x⟩ : St)) (fun x => Fk x = some Hr) ?_ ?_
 rintro H1 hF
 replace hF : Fk H1 = some Hr := hF
 unfold Fk at hF
 obtain e0 := Al hF
 subst e0
 exact yi (vN)
 rcases Af hF with ⟨h2, hF⟩ | ⟨h2, hF⟩
 refine yT h2 ⟨(L15 p0), [B2], H⟩ ?_
 obtain ⟨i3, o4, h5, hF⟩ := Br hF
 let E8 : EN := (15, vo i3 (o4 + 17))
 let L16 : List EN := [(0, vo i3 o4), E7, (10, vo i3 o4), E5, E6, (13, vo i3 o4), (14, vo i3 o4)]
 obtain ⟨x6, V7, hF⟩ := Ab hF
 replace V7 := A8 V7
 let E9 : EN := (16, vu x6.EPC_)
 obtain ⟨H9, c8, hF⟩ := Ab hF
 refine Bn (.take 0 (.take 1 (.take 2 (.take 3 (.take 4 (.take 5 (.last 6 (.last 7 .done)))))))) (by kernel_rfl) (⟨[], [], H9⟩ : St) ?_ ?_
 refine Ao ⟨(L15 p0) ++ [(E4 p0)], [B2], H⟩ (by generalize p0 = qp0; cases qp0 <;> kernel_rfl) ?_
 refine Ao ⟨(L15 p0) ++ [(E4 p0), E5], [B2], H⟩ (by generalize p0 = qp0; cases qp0 <;> kernel_rfl) ?_
 refine Ao ⟨(L15 p0) ++ [(E4 p0), E5, E6], [B2], H⟩ (by generalize p0 = qp0; cases qp0 <;> kernel_rfl) ?_
 refine Ao ⟨(L15 p0) ++ [(E4 p0), E5, E6, (13, vp p0)], [B2], H⟩ (by generalize p0 = qp0; cases qp0 <;> kernel_rfl) ?_
 refine Fe (congrArg (fun q => (⟨[(0, vp q), E7, (10, vp q), E5, E6, (13, vp q)], [B2], H⟩ : St)) h5) ?_
 refine ydk 2 ⟨L16 ++ [E8], [B2], H⟩ ?_
 refine Bo ⟨L16 ++ [E8, E9], [B2], H⟩ (yd (X := X) (⟨L16 ++ [E8], [B2], H⟩ : St) 35 V7 17 1 false (vu x6.EPC_) (some 16)) ?_
 refine Bo ⟨L16 ++ [E8, E9, (17, vN)], [B2], H9⟩ (yc (some 17) false false (⟨L16 ++ [E8, E9], [B2], H⟩ : St) (Bf H c8)) ?_
 exact yde
 exact ⟨H9, hF, (by kernel_rfl)⟩
 refine yF h2 ⟨(L15 p0) ++ [E3], [B2], H⟩ ?_
 refine ysg ⟨(L15 p0) ++ [(18, vb (p1.Imm_ == 1))], [B2], H⟩ ?_ (h := (by generalize p0 = qp0; cases qp0 <;> kernel_rfl))
 refine Ar (α := (Ai)) (fun x => (⟨[], [], x⟩ : St)) (fun x => Fl x = some Hr) ?_ ?_
 rintro H10 hF
 replace hF : Fl H10 = some Hr := hF
 unfold Fl at hF
 exact ⟨H10, hF, (by kernel_rfl)⟩
 rcases Af hF with ⟨h11, hF⟩ | ⟨h11, hF⟩
 refine yT h11 ⟨(L15 p0), [B2], H⟩ ?_
 obtain ⟨i12, o13, h14, hF⟩ := Br hF
 let E13 : EN := (25, vo i12 (o13 + 18))
 let L17 : List EN := [(0, vo i12 o13), E7, (20, vo i12 o13), E11, E12, (23, vo i12 o13), (24, vo i12 o13)]
 obtain ⟨x15, V16, hF⟩ := Ab hF
 replace V16 := A8 V16
 let E14 : EN := (26, vu x15.Cause_)
 obtain ⟨H18, c17, hF⟩ := Ab hF
 refine Bn (.take 0 (.take 1 (.take 2 (.take 3 (.take 4 (.take 5 (.last 6 (.last 7 .done)))))))) (by kernel_rfl) (⟨[], [], H18⟩ : St) ?_ ?_
 refine Ao ⟨(L15 p0) ++ [(E10 p0)], [B2], H⟩ (by generalize p0 = qp0; cases qp0 <;> kernel_rfl) ?_
 refine Ao ⟨(L15 p0) ++ [(E10 p0), E11], [B2], H⟩ (by generalize p0 = qp0; cases qp0 <;> kernel_rfl) ?_
 refine Ao ⟨(L15 p0) ++ [(E10 p0), E11, E12], [B2], H⟩ (by generalize p0 = qp0; cases qp0 <;> kernel_rfl) ?_
 refine Ao ⟨(L15 p0) ++ [(E10 p0), E11, E12, (23, vp p0)], [B2], H⟩ (by generalize p0 = qp0; cases qp0 <;> kernel_rfl) ?_
 refine Fe (congrArg (fun q => (⟨[(0, vp q), E7, (20, vp q), E11, E12, (23, vp q)], [B2], H⟩ : St)) h14) ?_
 refine ydk 2 ⟨L17 ++ [E13], [B2], H⟩ ?_
 refine Bo ⟨L17 ++ [E13, E14], [B2], H⟩ (yd (X := X) (⟨L17 ++ [E13], [B2], H⟩ : St) 35 V16 18 1 false (vu x15.Cause_) (some 26)) ?_
 refine Bo ⟨L17 ++ [E13, E14, (27, vN)], [B2], H18⟩ (yc (some 27) false false (⟨L17 ++ [E13, E14], [B2], H⟩ : St) (Bf H c17)) ?_
 exact yde
 exact ⟨H18, hF, (by kernel_rfl)⟩
 refine yF h11 ⟨[(E1 p0)], [], H⟩ ?_
 obtain ⟨H20, c19, hF⟩ := Ab hF
 refine Ak ⟨[], [], H20⟩ ?_ ?_
 refine yr 1 (S18 p0) ?_ (h := (by generalize p0 = qp0; cases qp0 <;> kernel_rfl))
 refine Aj ⟨[(E1 p0), (6, vp p0), (7, vN)], [], H20⟩ (yc (some 7) false false (S18 p0) (Ff H c19) (hr := (by generalize p0 = qp0; cases qp0 <;> kernel_rfl)) (hs := (by generalize p0 = qp0; cases qp0 <;> kernel_rfl))) ?_
 exact ye
 exact ⟨H20, hF, (by kernel_rfl)⟩
noncomputable def Ig (H1 : Ai) : Option (Ai) :=
  some H1
noncomputable def Ih (H5 : Ai) : Option (Ai) :=
  Ig H5
noncomputable def Ii (H16 : Ai) : Option (Ai) :=
  Ih H16
noncomputable def Ij (H27 : Ai) : Option (Ai) :=
  Ii H27
noncomputable def Ik (H42 : Ai) : Option (Ai) :=
  Ij H42
noncomputable def Co (H : Ai) (p0 : Ptr) (p1 : T_instr_Instr) : Option (Ai) :=
  if (p1.Op_ == 3) = true then (Ag (Be H p0 p1.A_ (IntKind.wrap .u32 ((IntKind.wrap .u32 p1.Imm_) * 2 ^ 16))) fun H4 =>
  Ig H4)
  else (if (p1.Op_ == 4) = true then ((p0).bnd fun i7 o8 =>
  Ag (Ba H i7 o8) fun x10 =>
  Ag (ga x10.R_ p1.B_) fun v12 =>
  Ag (Be H (Ptr.at i7 o8) p1.A_ (A6 .or .u32 v12 (IntKind.wrap .u32 p1.Imm_))) fun H15 =>
  Ih H15)
  else (if (p1.Op_ == 34) = true then ((p0).bnd fun i18 o19 =>
  Ag (Ba H i18 o19) fun x21 =>
  Ag (ga x21.R_ p1.B_) fun v23 =>
  Ag (Be H (Ptr.at i18 o19) p1.A_ (A6 .xor .u32 v23 (IntKind.wrap .u32 p1.Imm_))) fun H26 =>
  Ii H26)
  else (if (p1.Op_ == 26) = true then ((p0).bnd fun i29 o30 =>
  Ag (Ba H i29 o30) fun x32 =>
  Ag (ga x32.R_ p1.A_) fun v34 =>
  if (decide (v34 ≥ (IntKind.wrap .u32 p1.Imm_))) = true then (Ag (Cu H (Ptr.at i29 o30) (IntKind.wrap .u32 p1.B_)) fun H38 =>
  some H38)
  else (bnd (Bj H i29 o30 (T_cpu_Cpu.mk x32.R_ (IntKind.wrap .u32 (x32.PC_ + 4)) x32.EPC_ x32.Cause_ x32.State_ x32.Why_ x32.Steps_ x32.Taken_ x32.Out_ x32.setup_ x32.input_)) fun H39 =>
  Ij H39))
  else (if (p1.Op_ == 30) = true then ((p0).bnd fun i44 o45 =>
  Ag (Ba H i44 o45) fun x47 =>
  Ag (ga x47.R_ p1.A_) fun v49 =>
  Ag (app 16 x47.Out_ ([(T_api_Event.mk p1.Imm_ (IntKind.wrap .i32 v49))] : List T_api_Event)) fun v51 =>
  bnd (Bj H i44 o45 (T_cpu_Cpu.mk x47.R_ x47.PC_ x47.EPC_ x47.Cause_ x47.State_ x47.Why_ x47.Steps_ x47.Taken_ v51 x47.setup_ x47.input_)) fun H53 =>
  bnd (Bj H53 i44 o45 (T_cpu_Cpu.mk x47.R_ (IntKind.wrap .u32 (x47.PC_ + 4)) x47.EPC_ x47.Cause_ x47.State_ x47.Why_ x47.Steps_ x47.Taken_ v51 x47.setup_ x47.input_)) fun H56 =>
  Ik H56)
  else (Ag (Eg H p0 p1) fun H60 =>
  Ik H60)))))
theorem Wb (H : Ai) {p0 : Ptr} {p1 : T_instr_Instr} {Hr : Ai} (hF : Co H p0 p1 = some Hr) : evS X 105 [.one .top (Ptr.av p0), .agg (Aq p1)] H = some (.tup [], Hr) := by
 let B5 : EB := (3, (Aq p1))
 let E6 : Ptr → EN := fun z0 => (23, vp z0)
 let E7 : EN := (24, vl 3 1)
 let E8 : EN := (25, vi p1.A_)
 let E9 : EN := (27, vl 3 2)
 let E10 : EN := (28, vi p1.B_)
 let E12 : EN := (33, vu (IntKind.wrap .u32 p1.Imm_))
 let E13 : Ptr → EN := fun z0 => (38, vp z0)
 let E14 : EN := (39, vl 3 1)
 let E15 : EN := (40, vi p1.A_)
 let E16 : EN := (42, vl 3 2)
 let E17 : EN := (43, vi p1.B_)
 let E19 : EN := (48, vu (IntKind.wrap .u32 p1.Imm_))
 let E21 : EN := (3, vl 3 0)
 let E23 : EN := (54, vl 3 1)
 let E24 : EN := (55, vi p1.A_)
 let E26 : EN := (60, vu (IntKind.wrap .u32 p1.Imm_))
 let E28 : EN := (81, vl 3 4)
 let E29 : EN := (82, vi p1.Imm_)
 let E37 : EN := (11, .agg (Aq p1))
 let L38 : List EN := [E21, (4, vu (IntKind.wrap .u32 p1.Imm_))]
 let L42 : Ptr → List EN := fun z0 => [(0, vp z0)] ++ L38
 let L45 : Ptr → List EN := fun z0 => [(0, vp z0), E21]
 let L50 : Ptr → List EN := fun z0 => (L42 z0) ++ [(9, vi p1.Op_)]
 let L63 : Ptr → List EN := fun z0 => (L42 z0) ++ [(E6 z0), E7, E8, (26, vp z0)]
 let L64 : Ptr → List EN := fun z0 => (L42 z0) ++ [(E13 z0), E14, E15, (41, vp z0)]
 let L65 : Ptr → List EN := fun z0 => (L42 z0) ++ [(15, vp z0), (16, vl 3 1), (17, vi p1.A_), (18, vu (IntKind.wrap .u32 p1.Imm_)), (19, vu (IntKind.wrap .u32 ((IntKind.wrap .u32 p1.Imm_) * 2 ^ 16)))]
 refine yf Try.func105 false ⟨[(0, vp p0), (1, .agg (Aq p1))], [], H⟩ ?_
 unfold Co at hF
 refine ysg ⟨(L45 p0), [B5], H⟩ ?_ (h := (by generalize p0 = qp0; cases qp0 <;> kernel_rfl))
 refine ysg ⟨(L42 p0), [B5], H⟩ ?_ (h := (by generalize p0 = qp0; cases qp0 <;> kernel_rfl))
 refine ysg ⟨(L50 p0), [B5], H⟩ ?_ (h := (by generalize p0 = qp0; cases qp0 <;> kernel_rfl))
 refine Bs ?_
 refine ysg ⟨(L50 p0) ++ [(13, vb (p1.Op_ == 3))], [B5], H⟩ ?_ (h := (by generalize p0 = qp0; cases qp0 <;> kernel_rfl))
 refine Ar (α := (Ai)) (fun x => (⟨[], [], x⟩ : St)) (fun x => Ig x = some Hr) ?_ ?_
 rintro H1 hF
 replace hF : Ig H1 = some Hr := hF
 unfold Ig at hF
 obtain e0 := Al hF
 subst e0
 exact yi (vN)
 rcases Af hF with ⟨h2, hF⟩ | ⟨h2, hF⟩
 refine yT h2 ⟨(L42 p0), [B5], H⟩ ?_
 obtain ⟨H4, c3, hF⟩ := Ab hF
 refine Ak ⟨[], [], H4⟩ ?_ ?_
 refine yr 5 ⟨(L65 p0), [B5], H⟩ ?_ (h := (by generalize p0 = qp0; cases qp0 <;> kernel_rfl))
 refine Aj ⟨(L65 p0) ++ [(20, vN)], [B5], H4⟩ (yc (some 20) false false (⟨(L65 p0), [B5], H⟩ : St) (Bf H c3) (hr := (by generalize p0 = qp0; cases qp0 <;> kernel_rfl)) (hs := (by generalize p0 = qp0; cases qp0 <;> kernel_rfl))) ?_
 exact ye
 exact ⟨H4, hF, (by kernel_rfl)⟩
 refine yF h2 ⟨(L50 p0), [B5], H⟩ ?_
 refine ysg ⟨(L50 p0) ++ [(21, vb (p1.Op_ == 4))], [B5], H⟩ ?_ (h := (by generalize p0 = qp0; cases qp0 <;> kernel_rfl))
 refine Ar (α := (Ai)) (fun x => (⟨[], [], x⟩ : St)) (fun x => Ih x = some Hr) ?_ ?_
 rintro H5 hF
 replace hF : Ih H5 = some Hr := hF
 unfold Ih at hF
 exact ⟨H5, hF, (by kernel_rfl)⟩
 rcases Af hF with ⟨h6, hF⟩ | ⟨h6, hF⟩
 refine yT h6 ⟨(L42 p0), [B5], H⟩ ?_
 obtain ⟨i7, o8, h9, hF⟩ := Br hF
 let E11 : EN := (30, vo i7 o8)
 let L46 : List EN := [(0, vo i7 o8)] ++ L38 ++ [(23, vo i7 o8), E7, E8, (26, vo i7 o8), E9, E10, (29, vo i7 o8)]
 let L53 : List EN := L46 ++ [E11, (31, vo i7 (o8 + Int.toNat p1.B_))]
 obtain ⟨x10, V11, hF⟩ := Ab hF
 replace V11 := A8 V11
 obtain ⟨v12, h13, hF⟩ := Ab hF
 let L61 : List EN := L53 ++ [(32, vu v12), E12, (34, vu (A6 .or .u32 v12 (IntKind.wrap .u32 p1.Imm_)))]
 obtain ⟨H15, c14, hF⟩ := Ab hF
 refine Bn (.take 0 (.take 1 (.take 2 (.take 3 (.take 4 (.take 5 (.take 6 (.take 7 (.take 8 (.take 10 (.last 9 (.take 11 (.last 12 .done))))))))))))) (by kernel_rfl) (⟨[], [], H15⟩ : St) ?_ ?_
 refine Ao ⟨(L42 p0) ++ [(E6 p0)], [B5], H⟩ (by generalize p0 = qp0; cases qp0 <;> kernel_rfl) ?_
 refine Ao ⟨(L42 p0) ++ [(E6 p0), E7], [B5], H⟩ (by generalize p0 = qp0; cases qp0 <;> kernel_rfl) ?_
 refine Ao ⟨(L42 p0) ++ [(E6 p0), E7, E8], [B5], H⟩ (by generalize p0 = qp0; cases qp0 <;> kernel_rfl) ?_
 refine Ao ⟨(L63 p0), [B5], H⟩ (by generalize p0 = qp0; cases qp0 <;> kernel_rfl) ?_
 refine Ao ⟨(L63 p0) ++ [E9], [B5], H⟩ (by generalize p0 = qp0; cases qp0 <;> kernel_rfl) ?_
 refine Ao ⟨(L63 p0) ++ [E9, E10], [B5], H⟩ (by generalize p0 = qp0; cases qp0 <;> kernel_rfl) ?_
 refine Fe (congrArg (fun q => (⟨[(0, vp q)] ++ L38 ++ [(23, vp q), E7, E8, (26, vp q), E9, E10], [B5], H⟩ : St)) h9) ?_
 refine ydk 2 ⟨L46 ++ [E11], [B5], H⟩ ?_
 refine Ao ⟨L53, [B5], H⟩ (Kv (X := X) (⟨L46 ++ [E11], [B5], H⟩ : St) 46 35 16 h13 i7 o8 (some 31) (by kernel_rfl) (by kernel_rfl) (by kernel_rfl) (by kernel_rfl)) ?_
 refine ydt ⟨L53 ++ [E12], [B5], H⟩ ?_
 refine Bo ⟨L53 ++ [(32, vu v12), E12], [B5], H⟩ (Kj (X := X) (⟨L53 ++ [E12], [B5], H⟩ : St) 35 16 h13 V11 0 (fun q => .int .u32 q) (some 32) (by kernel_rfl) (by kernel_rfl) (by kernel_rfl) (by kernel_rfl) (by kernel_rfl) (by kernel_rfl)) ?_
 refine ydt ⟨L61, [B5], H⟩ ?_
 refine Bo ⟨L61 ++ [(35, vN)], [B5], H15⟩ (yc (some 35) false false (⟨L61, [B5], H⟩ : St) (Bf H c14)) ?_
 exact yde
 exact ⟨H15, hF, (by kernel_rfl)⟩
 refine yF h6 ⟨(L50 p0), [B5], H⟩ ?_
 refine ysg ⟨(L50 p0) ++ [(36, vb (p1.Op_ == 34))], [B5], H⟩ ?_ (h := (by generalize p0 = qp0; cases qp0 <;> kernel_rfl))
 refine Ar (α := (Ai)) (fun x => (⟨[], [], x⟩ : St)) (fun x => Ii x = some Hr) ?_ ?_
 rintro H16 hF
 replace hF : Ii H16 = some Hr := hF
 unfold Ii at hF
 exact ⟨H16, hF, (by kernel_rfl)⟩
 rcases Af hF with ⟨h17, hF⟩ | ⟨h17, hF⟩
 refine yT h17 ⟨(L42 p0), [B5], H⟩ ?_
 obtain ⟨i18, o19, h20, hF⟩ := Br hF
 let E18 : EN := (45, vo i18 o19)
 let L47 : List EN := [(0, vo i18 o19)] ++ L38 ++ [(38, vo i18 o19), E14, E15, (41, vo i18 o19), E16, E17, (44, vo i18 o19)]
 let L54 : List EN := L47 ++ [E18, (46, vo i18 (o19 + Int.toNat p1.B_))]
 obtain ⟨x21, V22, hF⟩ := Ab hF
 replace V22 := A8 V22
 obtain ⟨v23, h24, hF⟩ := Ab hF
 let L62 : List EN := L54 ++ [(47, vu v23), E19, (49, vu (A6 .xor .u32 v23 (IntKind.wrap .u32 p1.Imm_)))]
 obtain ⟨H26, c25, hF⟩ := Ab hF
 refine Bn (.take 0 (.take 1 (.take 2 (.take 3 (.take 4 (.take 5 (.take 6 (.take 7 (.take 8 (.take 10 (.last 9 (.take 11 (.last 12 .done))))))))))))) (by kernel_rfl) (⟨[], [], H26⟩ : St) ?_ ?_
 refine Ao ⟨(L42 p0) ++ [(E13 p0)], [B5], H⟩ (by generalize p0 = qp0; cases qp0 <;> kernel_rfl) ?_
 refine Ao ⟨(L42 p0) ++ [(E13 p0), E14], [B5], H⟩ (by generalize p0 = qp0; cases qp0 <;> kernel_rfl) ?_
 refine Ao ⟨(L42 p0) ++ [(E13 p0), E14, E15], [B5], H⟩ (by generalize p0 = qp0; cases qp0 <;> kernel_rfl) ?_
 refine Ao ⟨(L64 p0), [B5], H⟩ (by generalize p0 = qp0; cases qp0 <;> kernel_rfl) ?_
 refine Ao ⟨(L64 p0) ++ [E16], [B5], H⟩ (by generalize p0 = qp0; cases qp0 <;> kernel_rfl) ?_
 refine Ao ⟨(L64 p0) ++ [E16, E17], [B5], H⟩ (by generalize p0 = qp0; cases qp0 <;> kernel_rfl) ?_
 refine Fe (congrArg (fun q => (⟨[(0, vp q)] ++ L38 ++ [(38, vp q), E14, E15, (41, vp q), E16, E17], [B5], H⟩ : St)) h20) ?_
 refine ydk 2 ⟨L47 ++ [E18], [B5], H⟩ ?_
 refine Ao ⟨L54, [B5], H⟩ (Kv (X := X) (⟨L47 ++ [E18], [B5], H⟩ : St) 46 35 16 h24 i18 o19 (some 46) (by kernel_rfl) (by kernel_rfl) (by kernel_rfl) (by kernel_rfl)) ?_
 refine ydt ⟨L54 ++ [E19], [B5], H⟩ ?_
 refine Bo ⟨L54 ++ [(47, vu v23), E19], [B5], H⟩ (Kj (X := X) (⟨L54 ++ [E19], [B5], H⟩ : St) 35 16 h24 V22 0 (fun q => .int .u32 q) (some 47) (by kernel_rfl) (by kernel_rfl) (by kernel_rfl) (by kernel_rfl) (by kernel_rfl) (by kernel_rfl)) ?_
 refine ydt ⟨L62, [B5], H⟩ ?_
 refine Bo ⟨L62 ++ [(50, vN)], [B5], H26⟩ (yc (some 50) false false (⟨L62, [B5], H⟩ : St) (Bf H c25)) ?_
 exact yde
 exact ⟨H26, hF, (by kernel_rfl)⟩
 refine yF h17 ⟨(L50 p0), [B5], H⟩ ?_
 refine ysg ⟨(L50 p0) ++ [(51, vb (p1.Op_ == 26))], [B5], H⟩ ?_ (h := (by generalize p0 = qp0; cases qp0 <;> kernel_rfl))
 refine Ar (α := (Ai)) (fun x => (⟨[], [], x⟩ : St)) (fun x => Ij x = some Hr) ?_ ?_
 rintro H27 hF
 replace hF : Ij H27 = some Hr := hF
 unfold Ij at hF
 exact ⟨H27, hF, (by kernel_rfl)⟩
 rcases Af hF with ⟨h28, hF⟩ | ⟨h28, hF⟩
 refine yT h28 ⟨(L42 p0), [B5], H⟩ ?_
 refine Ah ?_
 refine Ah ?_
 obtain ⟨i29, o30, h31, hF⟩ := Br hF
 let E20 : EN := (0, vo i29 o30)
 let E25 : EN := (57, vo i29 o30)
 let L52 : List EN := [E20] ++ L38 ++ [(53, vo i29 o30), E23, E24, (56, vo i29 o30)]
 let L55 : List EN := [E20, (67, vo i29 o30), (68, vo i29 o30), (69, vo i29 (o30 + 16))]
 let L58 : List EN := L52 ++ [E25, (58, vo i29 (o30 + Int.toNat p1.A_))]
 let L66 : List EN := [E20, E21, (62, vo i29 o30), (63, vl 3 2), (64, vi p1.B_), (65, vu (IntKind.wrap .u32 p1.B_))]
 obtain ⟨x32, V33, hF⟩ := Ab hF
 replace V33 := A8 V33
 let W3 : Ai := Dp H i29 o30 (arM .u32 16 x32.R_ ++ [(.top, .int .u32 (IntKind.wrap .u32 (x32.PC_ + 4))), (.top, .int .u32 x32.EPC_), (.top, .int .u32 x32.Cause_), (.top, .int .i64 x32.State_), (.top, .int .i64 x32.Why_), (.top, .int .i64 x32.Steps_), (.top, .int .i64 x32.Taken_), ((.own 1), .sl 2 (List.map Ae x32.Out_)), (.top, .int .u32 x32.setup_.Entry_), (.top, .int .u32 x32.setup_.Vector_), (.top, .int .u32 x32.setup_.Guard_), (.top, .int .u32 x32.setup_.Limit_), ((.own 1), .sl 1 (List.map (eI .i32) x32.input_))])
 let L59 : List EN := L55 ++ [(70, vu x32.PC_), (71, vu (IntKind.wrap .u32 (x32.PC_ + 4))), (72, vo i29 o30), (73, vo i29 (o30 + 16))]
 obtain ⟨v34, h35, hF⟩ := Ab hF
 let E22 : EN := (61, vb (decide (v34 ≥ (IntKind.wrap .u32 p1.Imm_))))
 refine Bn (.take 0 (.take 1 (.take 2 (.take 3 (.take 4 (.take 5 (.take 6 (.take 7 (.take 8 .done))))))))) (by kernel_rfl) (⟨[E20, E21, E22], [B5], H⟩ : St) ?_ ?_
 refine Ao ⟨(L42 p0) ++ [(53, vp p0)], [B5], H⟩ (by generalize p0 = qp0; cases qp0 <;> kernel_rfl) ?_
 refine Ao ⟨(L42 p0) ++ [(53, vp p0), E23], [B5], H⟩ (by generalize p0 = qp0; cases qp0 <;> kernel_rfl) ?_
 refine Ao ⟨(L42 p0) ++ [(53, vp p0), E23, E24], [B5], H⟩ (by generalize p0 = qp0; cases qp0 <;> kernel_rfl) ?_
 refine Fe (congrArg (fun q => (⟨[(0, vp q)] ++ L38 ++ [(53, vp q), E23, E24], [B5], H⟩ : St)) h31) ?_
 refine ydk 2 ⟨L52 ++ [E25], [B5], H⟩ ?_
 refine Ao ⟨L58, [B5], H⟩ (Kv (X := X) (⟨L52 ++ [E25], [B5], H⟩ : St) 46 35 16 h35 i29 o30 (some 58) (by kernel_rfl) (by kernel_rfl) (by kernel_rfl) (by kernel_rfl)) ?_
 refine Ao ⟨L58 ++ [(59, vu v34)], [B5], H⟩ (Kj (X := X) (⟨L58, [B5], H⟩ : St) 35 16 h35 V33 0 (fun q => .int .u32 q) (some 59) (by kernel_rfl) (by kernel_rfl) (by kernel_rfl) (by kernel_rfl) (by kernel_rfl) (by kernel_rfl)) ?_
 refine ydk 2 ⟨L58 ++ [(59, vu v34), E26, E22], [B5], H⟩ ?_
 exact yde
 rcases Af hF with ⟨h36, hF⟩ | ⟨h36, hF⟩
 refine yT h36 ⟨[E20, E21], [B5], H⟩ ?_
 refine Ah ?_
 obtain ⟨H38, c37, hF⟩ := Ab hF
 refine Ak ⟨[], [], H38⟩ ?_ ?_
 refine yr 4 ⟨L66, [B5], H⟩ ?_
 refine Aj ⟨L66 ++ [(66, vN)], [B5], H38⟩ (yc (some 66) false false (⟨L66, [B5], H⟩ : St) (Fs H c37)) ?_
 exact ye
 refine As ?_
 obtain e0 := Al hF
 subst e0
 exact yi (vN)
 refine yF h36 ⟨[E20], [], H⟩ ?_
 refine Am ?_
 obtain ⟨H39, h40, hF⟩ := Ci hF
 have V41 : Cq H39 i29 o30 29 = some (Bx (T_cpu_Cpu.mk x32.R_ (IntKind.wrap .u32 (x32.PC_ + 4)) x32.EPC_ x32.Cause_ x32.State_ x32.Why_ x32.Steps_ x32.Taken_ x32.Out_ x32.setup_ x32.input_)) := by rw [← h40]; exact Bt V33 rfl
 refine Ak ⟨[], [], H39⟩ ?_ ?_
 refine yr 3 ⟨L55, [], H⟩ ?_
 refine Aj ⟨L55 ++ [(70, vu x32.PC_)], [], H⟩ (yd (X := X) (⟨L55, [], H⟩ : St) 35 V33 16 1 false (vu x32.PC_) (some 70)) ?_
 refine yr 3 ⟨L59, [], H⟩ ?_
 refine Aj ⟨L59, [], W3⟩ (Gp (X := X) (lc := []) (h2 := W3) (⟨L59, [], H⟩ : St) 35 V33 16 1 (vu (IntKind.wrap .u32 (x32.PC_ + 4))) (by kernel_rfl) (by kernel_rfl) (by kernel_rfl) (by kernel_rfl) (by kernel_rfl) (by kernel_rfl) (Ca V33 (Nat.le_of_ble_eq_true rfl)) (by kernel_rfl)) ?_
 refine Bc (congrArg (fun q => (⟨L59, [], q⟩ : St)) h40) ?_
 exact ye
 exact ⟨H39, hF, (by kernel_rfl)⟩
 refine yF h28 ⟨(L45 p0) ++ [(9, vi p1.Op_)], [B5], H⟩ ?_
 refine ysg ⟨(L45 p0) ++ [(74, vb (p1.Op_ == 30))], [B5], H⟩ ?_ (h := (by generalize p0 = qp0; cases qp0 <;> kernel_rfl))
 refine Ar (α := (Ai)) (fun x => (⟨[], [], x⟩ : St)) (fun x => Ik x = some Hr) ?_ ?_
 rintro H42 hF
 replace hF : Ik H42 = some Hr := hF
 unfold Ik at hF
 exact ⟨H42, hF, (by kernel_rfl)⟩
 rcases Af hF with ⟨h43, hF⟩ | ⟨h43, hF⟩
 refine yT h43 ⟨(L45 p0), [B5], H⟩ ?_
 refine Ah ?_
 obtain ⟨i44, o45, h46, hF⟩ := Br hF
 let E27 : EN := (0, vo i44 o45)
 let E30 : EN := (83, vo i44 o45)
 let E31 : EN := (86, vo i44 o45)
 let E32 : EN := (87, vo i44 o45)
 let E35 : EN := (94, vo i44 o45)
 let E36 : EN := (95, vo i44 (o45 + 23))
 let L39 : List EN := [E27, E21, (76, vo i44 o45), (77, vo i44 o45), (78, vo i44 o45), (79, vo i44 (o45 + 23))]
 let L40 : List EN := [E28, E29, E30, (84, vl 3 1), (85, vi p1.A_)]
 let L41 : List EN := L40 ++ [E31, E32, (88, vo i44 (o45 + Int.toNat p1.A_))]
 let L56 : List EN := [E27, (96, vo i44 o45), (97, vo i44 o45), (98, vo i44 (o45 + 16))]
 obtain ⟨x47, V48, hF⟩ := Ab hF
 replace V48 := A8 V48
 let W1 : Ai := Dp H i44 o45 (arM .u32 16 x47.R_ ++ [(.top, .int .u32 x47.PC_), (.top, .int .u32 x47.EPC_), (.top, .int .u32 x47.Cause_), (.top, .int .i64 x47.State_), (.top, .int .i64 x47.Why_), (.top, .int .i64 x47.Steps_), (.top, .int .i64 x47.Taken_), (.top, .junk), (.top, .int .u32 x47.setup_.Entry_), (.top, .int .u32 x47.setup_.Vector_), (.top, .int .u32 x47.setup_.Guard_), (.top, .int .u32 x47.setup_.Limit_), ((.own 1), .sl 1 (List.map (eI .i32) x47.input_))])
 let L48 : List EN := L39 ++ [(80, .one (.own 1) (.sl 2 (List.map Ae x47.Out_)))]
 let L60 : List EN := L56 ++ [(99, vu x47.PC_), (100, vu (IntKind.wrap .u32 (x47.PC_ + 4))), (101, vo i44 o45), (102, vo i44 (o45 + 16))]
 obtain ⟨v49, h50, hF⟩ := Ab hF
 let E33 : EN := (89, vu v49)
 let E34 : EN := (90, .one .top (.int .i32 (IntKind.wrap .i32 v49)))
 let L43 : List EN := L41 ++ [E33, E34, (91, .agg [(.top, .int .i64 p1.Imm_), (.top, .int .i32 (IntKind.wrap .i32 v49))])]
 let L44 : List EN := L39 ++ [(80, .one .top .junk)] ++ L43 ++ [(92, .one .top .junk)]
 let L51 : List EN := L44 ++ [(93, .one .top .junk), E35, E36]
 let L57 : List EN := L43 ++ [(92, .one (.own 1) (.sl 2 (List.map Ae ([(T_api_Event.mk p1.Imm_ (IntKind.wrap .i32 v49))] : List T_api_Event))))]
 obtain ⟨v51, h52, hF⟩ := Ab hF
 let W2 : Ai := Dp H i44 o45 (arM .u32 16 x47.R_ ++ [(.top, .int .u32 x47.PC_), (.top, .int .u32 x47.EPC_), (.top, .int .u32 x47.Cause_), (.top, .int .i64 x47.State_), (.top, .int .i64 x47.Why_), (.top, .int .i64 x47.Steps_), (.top, .int .i64 x47.Taken_), ((.own 1), .sl 2 (List.map Ae v51)), (.top, .int .u32 x47.setup_.Entry_), (.top, .int .u32 x47.setup_.Vector_), (.top, .int .u32 x47.setup_.Guard_), (.top, .int .u32 x47.setup_.Limit_), ((.own 1), .sl 1 (List.map (eI .i32) x47.input_))])
 let L49 : List EN := L44 ++ [(93, .one (.own 1) (.sl 2 (List.map Ae v51)))]
 obtain ⟨H53, h54, hF⟩ := Ci hF
 let W4 : Ai := Dp H53 i44 o45 (arM .u32 16 x47.R_ ++ [(.top, .int .u32 (IntKind.wrap .u32 (x47.PC_ + 4))), (.top, .int .u32 x47.EPC_), (.top, .int .u32 x47.Cause_), (.top, .int .i64 x47.State_), (.top, .int .i64 x47.Why_), (.top, .int .i64 x47.Steps_), (.top, .int .i64 x47.Taken_), ((.own 1), .sl 2 (List.map Ae v51)), (.top, .int .u32 x47.setup_.Entry_), (.top, .int .u32 x47.setup_.Vector_), (.top, .int .u32 x47.setup_.Guard_), (.top, .int .u32 x47.setup_.Limit_), ((.own 1), .sl 1 (List.map (eI .i32) x47.input_))])
 have V55 : Cq H53 i44 o45 29 = some (Bx (T_cpu_Cpu.mk x47.R_ x47.PC_ x47.EPC_ x47.Cause_ x47.State_ x47.Why_ x47.Steps_ x47.Taken_ v51 x47.setup_ x47.input_)) := by rw [← h54]; exact Bt V48 rfl
 let K67 : Sch := .last 16 (.last 17 (.take 18 (.take 19 (.last 20 .done))))
 refine Bn (.take 0 (.take 1 (.take 2 (.take 3 (.take 5 (.take 6 (.take 7 (.take 8 (.take 9 (.take 10 (.take 11 (.take 12 (.alt 4 (.last 13 (.take 14 (.take 15 K67))) (.last 13 (.take 14 (.take 15 (.alt 4 K67 (.last 16 (.last 4 (.last 17 (.take 18 (.take 19 (.last 20 .done))))))))))))))))))))))) (by kernel_rfl) (⟨[E27], [], H53⟩ : St) ?_ ?_
 refine Ao ⟨(L45 p0) ++ [(76, vp p0)], [B5], H⟩ (by generalize p0 = qp0; cases qp0 <;> kernel_rfl) ?_
 refine Ao ⟨(L45 p0) ++ [(76, vp p0), (77, vp p0)], [B5], H⟩ (by generalize p0 = qp0; cases qp0 <;> kernel_rfl) ?_
 refine Fe (congrArg (fun q => (⟨[(0, vp q), E21, (76, vp q), (77, vp q)], [B5], H⟩ : St)) h46) ?_
 refine ydk 9 ⟨L39 ++ L40 ++ [E31, E32], [B5], H⟩ ?_
 refine Ao ⟨L39 ++ L41, [B5], H⟩ (Kv (X := X) (⟨L39 ++ L40 ++ [E31, E32], [B5], H⟩ : St) 46 35 16 h50 i44 o45 (some 88) (by kernel_rfl) (by kernel_rfl) (by kernel_rfl) (by kernel_rfl)) ?_
 refine jV (⟨L51, [B5], W2⟩ : St) ?_ ?_
 refine P2 ⟨L48 ++ L41, [B5], W1⟩ (fQ (X := X) (h2 := W1) (⟨L39 ++ L41, [B5], H⟩ : St) 47 V48 23 1 false (.one (.own 1) (.sl 2 (List.map Ae x47.Out_))) (some 80) (by kernel_rfl) (by kernel_rfl) (by kernel_rfl) (by kernel_rfl) (by kernel_rfl) (Ca V48 (Nat.le_of_ble_eq_true rfl)) (by kernel_rfl)) ?_ ?_
 refine Bz ⟨L48 ++ L41 ++ [E33], [B5], W1⟩ (Kj (X := X) (⟨L48 ++ L41, [B5], W1⟩ : St) 35 16 h50 (Bt V48 rfl) 0 (fun q => .int .u32 q) (some 89) (by kernel_rfl) (by kernel_rfl) (by kernel_rfl) (by kernel_rfl) (by kernel_rfl) (by kernel_rfl)) ?_
 refine yqt ⟨L48 ++ L41 ++ [E33, E34], [B5], W1⟩ ?_
 refine yqt ⟨L48 ++ L43, [B5], W1⟩ ?_
 refine yql ⟨L48 ++ L57, [B5], W1⟩ ?_
 refine Bz ⟨L49, [B5], W1⟩ (Lq (X := X) (⟨L44, [B5], W1⟩ : St) 16 h52 47 47 67 2 0 [(.top, .int .i64 0), (.top, .int .i32 0)] (.own 1) Ae 0 (some 93) (by kernel_rfl) (by kernel_rfl) (by kernel_rfl) (by kernel_rfl) (by kernel_rfl) (by kernel_rfl) (by kernel_rfl) (by kernel_rfl) (by kernel_rfl) (fun _ => rfl) (by kernel_rfl)) ?_
 refine yqt ⟨L49 ++ [E35], [B5], W1⟩ ?_
 refine yqt ⟨L49 ++ [E35, E36], [B5], W1⟩ ?_
 refine Bz ⟨L51, [B5], W2⟩ (Gp (X := X) (lc := [3]) (h2 := W2) (⟨L51, [B5], W1⟩ : St) 47 (Bt V48 rfl) 23 1 (.one (.own 1) (.sl 2 (List.map Ae v51))) (by kernel_rfl) (by kernel_rfl) (by kernel_rfl) (by kernel_rfl) (by kernel_rfl) (by kernel_rfl) (Lp V48 rfl (Nat.le_of_ble_eq_true rfl)) (by kernel_rfl)) ?_
 exact yqe
 refine Bz ⟨L39 ++ L41 ++ [E33], [B5], H⟩ (Kj (X := X) (⟨L39 ++ L41, [B5], H⟩ : St) 35 16 h50 V48 0 (fun q => .int .u32 q) (some 89) (by kernel_rfl) (by kernel_rfl) (by kernel_rfl) (by kernel_rfl) (by kernel_rfl) (by kernel_rfl)) ?_
 refine yqt ⟨L39 ++ L41 ++ [E33, E34], [B5], H⟩ ?_
 refine yqt ⟨L39 ++ L43, [B5], H⟩ ?_
 refine P2 ⟨L48 ++ L43, [B5], W1⟩ (fQ (X := X) (h2 := W1) (⟨L39 ++ L43, [B5], H⟩ : St) 47 V48 23 1 false (.one (.own 1) (.sl 2 (List.map Ae x47.Out_))) (some 80) (by kernel_rfl) (by kernel_rfl) (by kernel_rfl) (by kernel_rfl) (by kernel_rfl) (Ca V48 (Nat.le_of_ble_eq_true rfl)) (by kernel_rfl)) ?_ ?_
 refine yql ⟨L48 ++ L57, [B5], W1⟩ ?_
 refine Bz ⟨L49, [B5], W1⟩ (Lq (X := X) (⟨L44, [B5], W1⟩ : St) 16 h52 47 47 67 2 0 [(.top, .int .i64 0), (.top, .int .i32 0)] (.own 1) Ae 0 (some 93) (by kernel_rfl) (by kernel_rfl) (by kernel_rfl) (by kernel_rfl) (by kernel_rfl) (by kernel_rfl) (by kernel_rfl) (by kernel_rfl) (by kernel_rfl) (fun _ => rfl) (by kernel_rfl)) ?_
 refine yqt ⟨L49 ++ [E35], [B5], W1⟩ ?_
 refine yqt ⟨L49 ++ [E35, E36], [B5], W1⟩ ?_
 refine Bz ⟨L51, [B5], W2⟩ (Gp (X := X) (lc := [3]) (h2 := W2) (⟨L51, [B5], W1⟩ : St) 47 (Bt V48 rfl) 23 1 (.one (.own 1) (.sl 2 (List.map Ae v51))) (by kernel_rfl) (by kernel_rfl) (by kernel_rfl) (by kernel_rfl) (by kernel_rfl) (by kernel_rfl) (Lp V48 rfl (Nat.le_of_ble_eq_true rfl)) (by kernel_rfl)) ?_
 exact yqe
 refine yql ⟨L39 ++ L57, [B5], H⟩ ?_
 refine Bz ⟨L48 ++ L57, [B5], W1⟩ (fQ (X := X) (h2 := W1) (⟨L39 ++ L57, [B5], H⟩ : St) 47 V48 23 1 false (.one (.own 1) (.sl 2 (List.map Ae x47.Out_))) (some 80) (by kernel_rfl) (by kernel_rfl) (by kernel_rfl) (by kernel_rfl) (by kernel_rfl) (Ca V48 (Nat.le_of_ble_eq_true rfl)) (by kernel_rfl)) ?_
 refine Bz ⟨L49, [B5], W1⟩ (Lq (X := X) (⟨L44, [B5], W1⟩ : St) 16 h52 47 47 67 2 0 [(.top, .int .i64 0), (.top, .int .i32 0)] (.own 1) Ae 0 (some 93) (by kernel_rfl) (by kernel_rfl) (by kernel_rfl) (by kernel_rfl) (by kernel_rfl) (by kernel_rfl) (by kernel_rfl) (by kernel_rfl) (by kernel_rfl) (fun _ => rfl) (by kernel_rfl)) ?_
 refine yqt ⟨L49 ++ [E35], [B5], W1⟩ ?_
 refine yqt ⟨L49 ++ [E35, E36], [B5], W1⟩ ?_
 refine Bz ⟨L51, [B5], W2⟩ (Gp (X := X) (lc := [3]) (h2 := W2) (⟨L51, [B5], W1⟩ : St) 47 (Bt V48 rfl) 23 1 (.one (.own 1) (.sl 2 (List.map Ae v51))) (by kernel_rfl) (by kernel_rfl) (by kernel_rfl) (by kernel_rfl) (by kernel_rfl) (by kernel_rfl) (Lp V48 rfl (Nat.le_of_ble_eq_true rfl)) (by kernel_rfl)) ?_
 exact yqe
 refine lU (congrArg (fun q => (⟨L51, [B5], q⟩ : St)) h54) ?_
 kernel_rfl
 obtain ⟨H56, h57, hF⟩ := Ci hF
 have V58 : Cq H56 i44 o45 29 = some (Bx (T_cpu_Cpu.mk x47.R_ (IntKind.wrap .u32 (x47.PC_ + 4)) x47.EPC_ x47.Cause_ x47.State_ x47.Why_ x47.Steps_ x47.Taken_ v51 x47.setup_ x47.input_)) := by rw [← h57]; exact Bt V55 rfl
 refine Ak ⟨[], [], H56⟩ ?_ ?_
 refine yr 3 ⟨L56, [], H53⟩ ?_
 refine Aj ⟨L56 ++ [(99, vu x47.PC_)], [], H53⟩ (yd (X := X) (⟨L56, [], H53⟩ : St) 35 V55 16 1 false (vu x47.PC_) (some 99)) ?_
 refine yr 3 ⟨L60, [], H53⟩ ?_
 refine Aj ⟨L60, [], W4⟩ (Gp (X := X) (lc := []) (h2 := W4) (⟨L60, [], H53⟩ : St) 35 V55 16 1 (vu (IntKind.wrap .u32 (x47.PC_ + 4))) (by kernel_rfl) (by kernel_rfl) (by kernel_rfl) (by kernel_rfl) (by kernel_rfl) (by kernel_rfl) (Ca V55 (Nat.le_of_ble_eq_true rfl)) (by kernel_rfl)) ?_
 refine Bc (congrArg (fun q => (⟨L60, [], q⟩ : St)) h57) ?_
 exact ye
 exact ⟨H56, hF, (by kernel_rfl)⟩
 refine yF h43 ⟨(L45 p0), [B5], H⟩ ?_
 obtain ⟨H60, c59, hF⟩ := Ab hF
 refine Ak ⟨[], [], H60⟩ ?_ ?_
 refine yr 2 ⟨(L45 p0) ++ [(10, vp p0), E37], [B5], H⟩ ?_ (h := (by generalize p0 = qp0; cases qp0 <;> kernel_rfl))
 refine Aj ⟨(L45 p0) ++ [(10, vp p0), E37, (12, vN)], [B5], H60⟩ (yc (some 12) false false (⟨(L45 p0) ++ [(10, vp p0), E37], [B5], H⟩ : St) (Tr H c59) (hr := (by generalize p0 = qp0; cases qp0 <;> kernel_rfl)) (hs := (by generalize p0 = qp0; cases qp0 <;> kernel_rfl))) ?_
 exact ye
 exact ⟨H60, hF, (by kernel_rfl)⟩
noncomputable def Ez (H : Ai) (p0 : Ptr) (p1 : Bool) (p2 : Int) : Option (Ai) :=
  if p1 = true then ((p0).bnd fun i2 o3 =>
  Ag (Ba H i2 o3) fun x5 =>
  bnd (Bj H i2 o3 (T_cpu_Cpu.mk x5.R_ (IntKind.wrap .u32 (x5.PC_ + 4)) x5.EPC_ x5.Cause_ x5.State_ x5.Why_ x5.Steps_ x5.Taken_ x5.Out_ x5.setup_ x5.input_)) fun H7 =>
  some H7)
  else (Ag (Cu H p0 p2) fun H11 =>
  some H11)
theorem Mr (H : Ai) {p0 : Ptr} {p1 : Bool} {p2 : Int} {Hr : Ai} (hF : Ez H p0 p1 p2 = some Hr) : evS X 129 [.one .top (Ptr.av p0), .one .top (.bool p1), .one .top (.int .u32 p2)] H = some (.tup [], Hr) := by
 let E2 : Ptr → EN := fun z0 => (0, vp z0)
 let L5 : Ptr → List EN := fun z0 => [(E2 z0), (2, vu p2), (14, vp z0), (15, vu p2)]
 refine yf Try.func129 false ⟨[(E2 p0), (1, vb p1), (2, vu p2)], [], H⟩ ?_
 unfold Ez at hF
 refine Ah ?_
 refine ysg ⟨[(E2 p0), (2, vu p2), (6, vb p1)], [], H⟩ ?_ (h := (by generalize p0 = qp0; cases qp0 <;> kernel_rfl))
 rcases Af hF with ⟨h1, hF⟩ | ⟨h1, hF⟩
 refine yT h1 ⟨[(E2 p0)], [], H⟩ ?_
 refine Ah ?_
 obtain ⟨i2, o3, h4, hF⟩ := Br hF
 let L3 : List EN := [(0, vo i2 o3), (7, vo i2 o3), (8, vo i2 o3), (9, vo i2 (o3 + 16))]
 obtain ⟨x5, V6, hF⟩ := Ab hF
 replace V6 := A8 V6
 let W1 : Ai := Dp H i2 o3 (arM .u32 16 x5.R_ ++ [(.top, .int .u32 (IntKind.wrap .u32 (x5.PC_ + 4))), (.top, .int .u32 x5.EPC_), (.top, .int .u32 x5.Cause_), (.top, .int .i64 x5.State_), (.top, .int .i64 x5.Why_), (.top, .int .i64 x5.Steps_), (.top, .int .i64 x5.Taken_), ((.own 1), .sl 2 (List.map Ae x5.Out_)), (.top, .int .u32 x5.setup_.Entry_), (.top, .int .u32 x5.setup_.Vector_), (.top, .int .u32 x5.setup_.Guard_), (.top, .int .u32 x5.setup_.Limit_), ((.own 1), .sl 1 (List.map (eI .i32) x5.input_))])
 let L4 : List EN := L3 ++ [(10, vu x5.PC_), (11, vu (IntKind.wrap .u32 (x5.PC_ + 4))), (12, vo i2 o3), (13, vo i2 (o3 + 16))]
 obtain ⟨H7, h8, hF⟩ := Ci hF
 have V9 : Cq H7 i2 o3 29 = some (Bx (T_cpu_Cpu.mk x5.R_ (IntKind.wrap .u32 (x5.PC_ + 4)) x5.EPC_ x5.Cause_ x5.State_ x5.Why_ x5.Steps_ x5.Taken_ x5.Out_ x5.setup_ x5.input_)) := by rw [← h8]; exact Bt V6 rfl
 refine Ak ⟨[], [], H7⟩ ?_ ?_
 refine yr 1 ⟨[(E2 p0), (7, vp p0)], [], H⟩ ?_ (h := (by generalize p0 = qp0; cases qp0 <;> kernel_rfl))
 refine Bc (congrArg (fun q => (⟨[(0, vp q), (7, vp q)], [], H⟩ : St)) h4) ?_
 refine yr 1 ⟨[(0, vo i2 o3), (7, vo i2 o3), (8, vo i2 o3)], [], H⟩ ?_
 refine yr 1 ⟨L3, [], H⟩ ?_
 refine Aj ⟨L3 ++ [(10, vu x5.PC_)], [], H⟩ (yd (X := X) (⟨L3, [], H⟩ : St) 35 V6 16 1 false (vu x5.PC_) (some 10)) ?_
 refine yr 3 ⟨L4, [], H⟩ ?_
 refine Aj ⟨L4, [], W1⟩ (Gp (X := X) (lc := []) (h2 := W1) (⟨L4, [], H⟩ : St) 35 V6 16 1 (vu (IntKind.wrap .u32 (x5.PC_ + 4))) (by kernel_rfl) (by kernel_rfl) (by kernel_rfl) (by kernel_rfl) (by kernel_rfl) (by kernel_rfl) (Ca V6 (Nat.le_of_ble_eq_true rfl)) (by kernel_rfl)) ?_
 refine Bc (congrArg (fun q => (⟨L4, [], q⟩ : St)) h8) ?_
 exact ye
 refine As ?_
 obtain e0 := Al hF
 subst e0
 exact yi (vN)
 refine yF h1 ⟨[(E2 p0), (2, vu p2)], [], H⟩ ?_
 refine Am ?_
 obtain ⟨H11, c10, hF⟩ := Ab hF
 refine Ak ⟨[], [], H11⟩ ?_ ?_
 refine yr 2 ⟨(L5 p0), [], H⟩ ?_ (h := (by generalize p0 = qp0; cases qp0 <;> kernel_rfl))
 refine Aj ⟨(L5 p0) ++ [(16, vN)], [], H11⟩ (yc (some 16) false false (⟨(L5 p0), [], H⟩ : St) (Fs H c10) (hr := (by generalize p0 = qp0; cases qp0 <;> kernel_rfl)) (hs := (by generalize p0 = qp0; cases qp0 <;> kernel_rfl))) ?_
 exact ye
 obtain e0 := Al hF
 subst e0
 exact yi (vN)
noncomputable def Il (H1 : Ai) : Option (Ai) :=
  some H1
noncomputable def Im (H11 : Ai) : Option (Ai) :=
  Il H11
noncomputable def In (H23 : Ai) : Option (Ai) :=
  Im H23
noncomputable def Io (H38 : Ai) : Option (Ai) :=
  In H38
noncomputable def Ip (H49 : Ai) : Option (Ai) :=
  Io H49
noncomputable def Iq (H53 : Ai) : Option (Ai) :=
  Ip H53
noncomputable def Ir (H64 : Ai) : Option (Ai) :=
  Iq H64
noncomputable def Cm (H : Ai) (p0 : Ptr) (p1 : T_instr_Instr) : Option (Ai) :=
  if (p1.Op_ == 1) = true then ((p0).bnd fun i3 o4 =>
  Ag (Ba H i3 o4) fun x6 =>
  bnd (Bj H i3 o4 (T_cpu_Cpu.mk x6.R_ x6.PC_ x6.EPC_ x6.Cause_ 1 x6.Why_ x6.Steps_ x6.Taken_ x6.Out_ x6.setup_ x6.input_)) fun H8 =>
  Il H8)
  else (if (p1.Op_ == 24) = true then ((p0).bnd fun i13 o14 =>
  Ag (Ba H i13 o14) fun x16 =>
  Ag (ga x16.R_ p1.A_) fun v18 =>
  bnd (Bj H i13 o14 (T_cpu_Cpu.mk x16.R_ v18 x16.EPC_ x16.Cause_ x16.State_ x16.Why_ x16.Steps_ x16.Taken_ x16.Out_ x16.setup_ x16.input_)) fun H20 =>
  Im H20)
  else (if (p1.Op_ == 25) = true then ((p0).bnd fun i25 o26 =>
  Ag (Ba H i25 o26) fun x28 =>
  Ag (ga x28.R_ p1.A_) fun v30 =>
  bnd (Bj H i25 o26 (T_cpu_Cpu.mk (Ho [(x28.R_.g 0), (x28.R_.g 1), (x28.R_.g 2), (x28.R_.g 3), (x28.R_.g 4), (x28.R_.g 5), (x28.R_.g 6), (x28.R_.g 7), (x28.R_.g 8), (x28.R_.g 9), (x28.R_.g 10), (x28.R_.g 11), (x28.R_.g 12), (x28.R_.g 13), (IntKind.wrap .u32 (x28.PC_ + 4)), (x28.R_.g 15)] : Arr 16 Int) x28.PC_ x28.EPC_ x28.Cause_ x28.State_ x28.Why_ x28.Steps_ x28.Taken_ x28.Out_ x28.setup_ x28.input_)) fun H32 =>
  bnd (Bj H32 i25 o26 (T_cpu_Cpu.mk (Ho [(x28.R_.g 0), (x28.R_.g 1), (x28.R_.g 2), (x28.R_.g 3), (x28.R_.g 4), (x28.R_.g 5), (x28.R_.g 6), (x28.R_.g 7), (x28.R_.g 8), (x28.R_.g 9), (x28.R_.g 10), (x28.R_.g 11), (x28.R_.g 12), (x28.R_.g 13), (IntKind.wrap .u32 (x28.PC_ + 4)), (x28.R_.g 15)] : Arr 16 Int) v30 x28.EPC_ x28.Cause_ x28.State_ x28.Why_ x28.Steps_ x28.Taken_ x28.Out_ x28.setup_ x28.input_)) fun H35 =>
  In H35)
  else (if (p1.Op_ == 27) = true then ((p0).bnd fun i40 o41 =>
  Ag (Ba H i40 o41) fun x43 =>
  Ag (ga x43.R_ p1.A_) fun v45 =>
  Ag (Ez H (Ptr.at i40 o41) (v45 != 0) 2) fun H48 =>
  Io H48)
  else (if (p1.Op_ == 28) = true then (Ag (Cu H p0 (IntKind.wrap .u32 p1.Imm_)) fun H52 =>
  Ip H52)
  else (if (p1.Op_ == 29) = true then ((p0).bnd fun i55 o56 =>
  Ag (Ba H i55 o56) fun x58 =>
  Ag (ga x58.R_ p1.A_) fun v60 =>
  Ag (Cu H (Ptr.at i55 o56) v60) fun H63 =>
  Iq H63)
  else (if (p1.Op_ == 31) = true then ((p0).bnd fun i66 o67 =>
  Ag (Ba H i66 o67) fun x69 =>
  if (decide (x69.Taken_ ≥ (x69.input_.length : Int))) = true then (Ag (Cu H (Ptr.at i66 o67) 7) fun H73 =>
  some H73)
  else (bnd (Bj H i66 o67 (T_cpu_Cpu.mk x69.R_ x69.PC_ x69.EPC_ x69.Cause_ x69.State_ x69.Why_ x69.Steps_ (IntKind.wrap .i64 (x69.Taken_ + 1)) x69.Out_ x69.setup_ x69.input_)) fun H74 =>
  Ag (gi x69.input_ (IntKind.wrap .i64 ((IntKind.wrap .i64 (x69.Taken_ + 1)) - 1))) fun x77 =>
  Ag (Be H74 (Ptr.at i66 o67) p1.A_ (IntKind.wrap .u32 x77)) fun H80 =>
  Ir H80))
  else ((p0).bnd fun i81 o82 =>
  Ag (Ba H i81 o82) fun x84 =>
  Ag (ga x84.R_ p1.A_) fun v86 =>
  Ag (Ez H (Ptr.at i81 o82) (decide ((IntKind.wrap .i32 v86) ≥ (IntKind.wrap .i32 x84.setup_.Limit_))) 5) fun H89 =>
  Ir H89)))))))
theorem Wc (H : Ai) {p0 : Ptr} {p1 : T_instr_Instr} {Hr : Ai} (hF : Cm H p0 p1 = some Hr) : evS X 106 [.one .top (Ptr.av p0), .agg (Aq p1)] H = some (.tup [], Hr) := by
 let B7 : EB := (3, (Aq p1))
 let E8 : Ptr → EN := fun z0 => (31, vp z0)
 let E9 : EN := (33, vl 3 1)
 let E10 : EN := (34, vi p1.A_)
 let E11 : EN := (3, vl 3 0)
 let E13 : EN := (44, vl 3 1)
 let E14 : EN := (45, vi p1.A_)
 let E21 : Ptr → EN := fun z0 => (65, vp z0)
 let E22 : EN := (67, vl 3 1)
 let E23 : EN := (68, vi p1.A_)
 let E27 : Ptr → EN := fun z0 => (84, vp z0)
 let E28 : EN := (86, vl 3 1)
 let E29 : EN := (87, vi p1.A_)
 let E42 : EN := (9, vl 3 1)
 let E43 : EN := (10, vi p1.A_)
 let L49 : Ptr → List EN := fun z0 => [(0, vp z0), E11]
 let L59 : Ptr → List EN := fun z0 => (L49 z0) ++ [(6, vi p1.Op_)]
 let L83 : Ptr → List EN := fun z0 => (L49 z0) ++ [(77, vp z0), (78, vl 3 4), (79, vi p1.Imm_), (80, vu (IntKind.wrap .u32 p1.Imm_))]
 refine yf Try.func106 false ⟨[(0, vp p0), (1, .agg (Aq p1))], [], H⟩ ?_
 unfold Cm at hF
 refine ysg ⟨(L49 p0), [B7], H⟩ ?_ (h := (by generalize p0 = qp0; cases qp0 <;> kernel_rfl))
 refine ysg ⟨(L59 p0), [B7], H⟩ ?_ (h := (by generalize p0 = qp0; cases qp0 <;> kernel_rfl))
 refine Bs ?_
 refine ysg ⟨(L59 p0) ++ [(24, vb (p1.Op_ == 1))], [B7], H⟩ ?_ (h := (by generalize p0 = qp0; cases qp0 <;> kernel_rfl))
 refine Ar (α := (Ai)) (fun x => (⟨[], [], x⟩ : St)) (fun x => Il x = some Hr) ?_ ?_
 rintro H1 hF
 replace hF : Il H1 = some Hr := hF
 unfold Il at hF
 obtain e0 := Al hF
 subst e0
 exact yi (vN)
 rcases Af hF with ⟨h2, hF⟩ | ⟨h2, hF⟩
 refine yT h2 ⟨[(0, vp p0)], [], H⟩ ?_
 obtain ⟨i3, o4, h5, hF⟩ := Br hF
 let L80 : List EN := [(0, vo i3 o4), (26, vo i3 o4), (27, vo i3 o4), (28, vo i3 (o4 + 19))]
 obtain ⟨x6, V7, hF⟩ := Ab hF
 replace V7 := A8 V7
 let W5 : Ai := Dp H i3 o4 (arM .u32 16 x6.R_ ++ [(.top, .int .u32 x6.PC_), (.top, .int .u32 x6.EPC_), (.top, .int .u32 x6.Cause_), (.top, .int .i64 1), (.top, .int .i64 x6.Why_), (.top, .int .i64 x6.Steps_), (.top, .int .i64 x6.Taken_), ((.own 1), .sl 2 (List.map Ae x6.Out_)), (.top, .int .u32 x6.setup_.Entry_), (.top, .int .u32 x6.setup_.Vector_), (.top, .int .u32 x6.setup_.Guard_), (.top, .int .u32 x6.setup_.Limit_), ((.own 1), .sl 1 (List.map (eI .i32) x6.input_))])
 obtain ⟨H8, h9, hF⟩ := Ci hF
 have V10 : Cq H8 i3 o4 29 = some (Bx (T_cpu_Cpu.mk x6.R_ x6.PC_ x6.EPC_ x6.Cause_ 1 x6.Why_ x6.Steps_ x6.Taken_ x6.Out_ x6.setup_ x6.input_)) := by rw [← h9]; exact Bt V7 rfl
 refine Ak ⟨[], [], H8⟩ ?_ ?_
 refine yr 1 ⟨[(0, vp p0), (26, vp p0)], [], H⟩ ?_ (h := (by generalize p0 = qp0; cases qp0 <;> kernel_rfl))
 refine Bc (congrArg (fun q => (⟨[(0, vp q), (26, vp q)], [], H⟩ : St)) h5) ?_
 refine yr 1 ⟨[(0, vo i3 o4), (26, vo i3 o4), (27, vo i3 o4)], [], H⟩ ?_
 refine yr 1 ⟨L80, [], H⟩ ?_
 refine Aj ⟨L80, [], W5⟩ (Gp (X := X) (lc := []) (h2 := W5) (⟨L80, [], H⟩ : St) 3 V7 19 1 (vi 1) (by kernel_rfl) (by kernel_rfl) (by kernel_rfl) (by kernel_rfl) (by kernel_rfl) (by kernel_rfl) (Ca V7 (Nat.le_of_ble_eq_true rfl)) (by kernel_rfl)) ?_
 refine Bc (congrArg (fun q => (⟨L80, [], q⟩ : St)) h9) ?_
 exact ye
 exact ⟨H8, hF, (by kernel_rfl)⟩
 refine yF h2 ⟨(L59 p0), [B7], H⟩ ?_
 refine ysg ⟨(L59 p0) ++ [(29, vb (p1.Op_ == 24))], [B7], H⟩ ?_ (h := (by generalize p0 = qp0; cases qp0 <;> kernel_rfl))
 refine Ar (α := (Ai)) (fun x => (⟨[], [], x⟩ : St)) (fun x => Im x = some Hr) ?_ ?_
 rintro H11 hF
 replace hF : Im H11 = some Hr := hF
 unfold Im at hF
 exact ⟨H11, hF, (by kernel_rfl)⟩
 rcases Af hF with ⟨h12, hF⟩ | ⟨h12, hF⟩
 refine yT h12 ⟨(L49 p0), [B7], H⟩ ?_
 obtain ⟨i13, o14, h15, hF⟩ := Br hF
 let E12 : EN := (36, vo i13 o14)
 let L63 : List EN := [(0, vo i13 o14), E11, (31, vo i13 o14), (32, vo i13 o14), E9, E10, (35, vo i13 o14)]
 let L68 : List EN := L63 ++ [E12, (37, vo i13 (o14 + Int.toNat p1.A_))]
 obtain ⟨x16, V17, hF⟩ := Ab hF
 replace V17 := A8 V17
 obtain ⟨v18, h19, hF⟩ := Ab hF
 let W4 : Ai := Dp H i13 o14 (arM .u32 16 x16.R_ ++ [(.top, .int .u32 v18), (.top, .int .u32 x16.EPC_), (.top, .int .u32 x16.Cause_), (.top, .int .i64 x16.State_), (.top, .int .i64 x16.Why_), (.top, .int .i64 x16.Steps_), (.top, .int .i64 x16.Taken_), ((.own 1), .sl 2 (List.map Ae x16.Out_)), (.top, .int .u32 x16.setup_.Entry_), (.top, .int .u32 x16.setup_.Vector_), (.top, .int .u32 x16.setup_.Guard_), (.top, .int .u32 x16.setup_.Limit_), ((.own 1), .sl 1 (List.map (eI .i32) x16.input_))])
 let L79 : List EN := L68 ++ [(38, vu v18), (39, vo i13 o14), (40, vo i13 (o14 + 16))]
 obtain ⟨H20, h21, hF⟩ := Ci hF
 have V22 : Cq H20 i13 o14 29 = some (Bx (T_cpu_Cpu.mk x16.R_ v18 x16.EPC_ x16.Cause_ x16.State_ x16.Why_ x16.Steps_ x16.Taken_ x16.Out_ x16.setup_ x16.input_)) := by rw [← h21]; exact Bt V17 rfl
 refine Bn (.take 0 (.take 1 (.take 2 (.take 3 (.take 4 (.take 5 (.take 6 (.last 7 (.take 8 (.take 9 (.last 10 .done))))))))))) (by kernel_rfl) (⟨[], [], H20⟩ : St) ?_ ?_
 refine Ao ⟨(L49 p0) ++ [(E8 p0)], [B7], H⟩ (by generalize p0 = qp0; cases qp0 <;> kernel_rfl) ?_
 refine Ao ⟨(L49 p0) ++ [(E8 p0), (32, vp p0)], [B7], H⟩ (by generalize p0 = qp0; cases qp0 <;> kernel_rfl) ?_
 refine Ao ⟨(L49 p0) ++ [(E8 p0), (32, vp p0), E9], [B7], H⟩ (by generalize p0 = qp0; cases qp0 <;> kernel_rfl) ?_
 refine Ao ⟨(L49 p0) ++ [(E8 p0), (32, vp p0), E9, E10], [B7], H⟩ (by generalize p0 = qp0; cases qp0 <;> kernel_rfl) ?_
 refine Fe (congrArg (fun q => (⟨[(0, vp q), E11, (31, vp q), (32, vp q), E9, E10], [B7], H⟩ : St)) h15) ?_
 refine ydk 2 ⟨L63 ++ [E12], [B7], H⟩ ?_
 refine Ao ⟨L68, [B7], H⟩ (Kv (X := X) (⟨L63 ++ [E12], [B7], H⟩ : St) 46 35 16 h19 i13 o14 (some 37) (by kernel_rfl) (by kernel_rfl) (by kernel_rfl) (by kernel_rfl)) ?_
 refine Bo ⟨L68 ++ [(38, vu v18)], [B7], H⟩ (Kj (X := X) (⟨L68, [B7], H⟩ : St) 35 16 h19 V17 0 (fun q => .int .u32 q) (some 38) (by kernel_rfl) (by kernel_rfl) (by kernel_rfl) (by kernel_rfl) (by kernel_rfl) (by kernel_rfl)) ?_
 refine ydk 2 ⟨L79, [B7], H⟩ ?_
 refine Bo ⟨L79, [B7], W4⟩ (Gp (X := X) (lc := [3]) (h2 := W4) (⟨L79, [B7], H⟩ : St) 35 V17 16 1 (vu v18) (by kernel_rfl) (by kernel_rfl) (by kernel_rfl) (by kernel_rfl) (by kernel_rfl) (by kernel_rfl) (Ca V17 (Nat.le_of_ble_eq_true rfl)) (by kernel_rfl)) ?_
 refine Fe (congrArg (fun q => (⟨L79, [B7], q⟩ : St)) h21) ?_
 exact yde
 exact ⟨H20, hF, (by kernel_rfl)⟩
 refine yF h12 ⟨(L59 p0), [B7], H⟩ ?_
 refine ysg ⟨(L59 p0) ++ [(41, vb (p1.Op_ == 25))], [B7], H⟩ ?_ (h := (by generalize p0 = qp0; cases qp0 <;> kernel_rfl))
 refine Ar (α := (Ai)) (fun x => (⟨[], [], x⟩ : St)) (fun x => In x = some Hr) ?_ ?_
 rintro H23 hF
 replace hF : In H23 = some Hr := hF
 unfold In at hF
 exact ⟨H23, hF, (by kernel_rfl)⟩
 rcases Af hF with ⟨h24, hF⟩ | ⟨h24, hF⟩
 refine yT h24 ⟨(L49 p0), [B7], H⟩ ?_
 refine Ah ?_
 obtain ⟨i25, o26, h27, hF⟩ := Br hF
 let E15 : EN := (0, vo i25 o26)
 let E16 : EN := (48, vo i25 (o26 + Int.toNat p1.A_))
 let E17 : EN := (50, vo i25 o26)
 let E18 : EN := (51, vo i25 o26)
 let L66 : List EN := [(56, vo i25 o26), (57, vo i25 o26)]
 let L71 : List EN := [(43, vo i25 o26), E13, E14, (46, vo i25 o26)]
 let L76 : List EN := [E15, E11] ++ L71 ++ [(47, vo i25 o26)]
 obtain ⟨x28, V29, hF⟩ := Ab hF
 replace V29 := A8 V29
 let W1 : Ai := Dp H i25 o26 (arM .u32 14 x28.R_ ++ [(.top, .int .u32 (IntKind.wrap .u32 (x28.PC_ + 4))), (.top, .int .u32 (x28.R_.g 15)), (.top, .int .u32 x28.PC_), (.top, .int .u32 x28.EPC_), (.top, .int .u32 x28.Cause_), (.top, .int .i64 x28.State_), (.top, .int .i64 x28.Why_), (.top, .int .i64 x28.Steps_), (.top, .int .i64 x28.Taken_), ((.own 1), .sl 2 (List.map Ae x28.Out_)), (.top, .int .u32 x28.setup_.Entry_), (.top, .int .u32 x28.setup_.Vector_), (.top, .int .u32 x28.setup_.Guard_), (.top, .int .u32 x28.setup_.Limit_), ((.own 1), .sl 1 (List.map (eI .i32) x28.input_))])
 let E19 : EN := (54, vu x28.PC_)
 let E20 : EN := (55, vu (IntKind.wrap .u32 (x28.PC_ + 4)))
 obtain ⟨v30, h31, hF⟩ := Ab hF
 let L56 : List EN := [E15, (4, vu v30)]
 let L64 : List EN := L56 ++ [E17, E18, (52, vo i25 o26), (53, vo i25 (o26 + 16))]
 let L78 : List EN := L64 ++ [E19, E20] ++ L66 ++ [(58, vo i25 (o26 + 14))]
 let L81 : List EN := L56 ++ [(59, vo i25 o26), (60, vu v30), (61, vo i25 o26), (62, vo i25 (o26 + 16))]
 refine Bn (.take 0 (.take 1 (.take 2 (.take 3 (.take 4 (.take 5 (.take 6 (.take 7 .done)))))))) (by kernel_rfl) (⟨L56, [], H⟩ : St) ?_ ?_
 refine Ao ⟨(L49 p0) ++ [(43, vp p0)], [B7], H⟩ (by generalize p0 = qp0; cases qp0 <;> kernel_rfl) ?_
 refine Ao ⟨(L49 p0) ++ [(43, vp p0), E13], [B7], H⟩ (by generalize p0 = qp0; cases qp0 <;> kernel_rfl) ?_
 refine Ao ⟨(L49 p0) ++ [(43, vp p0), E13, E14], [B7], H⟩ (by generalize p0 = qp0; cases qp0 <;> kernel_rfl) ?_
 refine Fe (congrArg (fun q => (⟨[(0, vp q), E11, (43, vp q), E13, E14], [B7], H⟩ : St)) h27) ?_
 refine ydk 2 ⟨L76, [B7], H⟩ ?_
 refine Ao ⟨L76 ++ [E16], [B7], H⟩ (Kv (X := X) (⟨L76, [B7], H⟩ : St) 46 35 16 h31 i25 o26 (some 48) (by kernel_rfl) (by kernel_rfl) (by kernel_rfl) (by kernel_rfl)) ?_
 refine Ao ⟨L76 ++ [E16, (49, vu v30)], [B7], H⟩ (Kj (X := X) (⟨L76 ++ [E16], [B7], H⟩ : St) 35 16 h31 V29 0 (fun q => .int .u32 q) (some 49) (by kernel_rfl) (by kernel_rfl) (by kernel_rfl) (by kernel_rfl) (by kernel_rfl) (by kernel_rfl)) ?_
 refine ydt ⟨[E15, E11, (4, vu v30)] ++ L71 ++ [(47, vo i25 o26), E16, (49, vu v30)], [B7], H⟩ ?_
 exact yde
 refine Ah ?_
 obtain ⟨H32, h33, hF⟩ := Ci hF
 let W2 : Ai := Dp H32 i25 o26 (arM .u32 14 x28.R_ ++ [(.top, .int .u32 (IntKind.wrap .u32 (x28.PC_ + 4))), (.top, .int .u32 (x28.R_.g 15)), (.top, .int .u32 v30), (.top, .int .u32 x28.EPC_), (.top, .int .u32 x28.Cause_), (.top, .int .i64 x28.State_), (.top, .int .i64 x28.Why_), (.top, .int .i64 x28.Steps_), (.top, .int .i64 x28.Taken_), ((.own 1), .sl 2 (List.map Ae x28.Out_)), (.top, .int .u32 x28.setup_.Entry_), (.top, .int .u32 x28.setup_.Vector_), (.top, .int .u32 x28.setup_.Guard_), (.top, .int .u32 x28.setup_.Limit_), ((.own 1), .sl 1 (List.map (eI .i32) x28.input_))])
 have V34 : Cq H32 i25 o26 29 = some (Bx (T_cpu_Cpu.mk (Ho [(x28.R_.g 0), (x28.R_.g 1), (x28.R_.g 2), (x28.R_.g 3), (x28.R_.g 4), (x28.R_.g 5), (x28.R_.g 6), (x28.R_.g 7), (x28.R_.g 8), (x28.R_.g 9), (x28.R_.g 10), (x28.R_.g 11), (x28.R_.g 12), (x28.R_.g 13), (IntKind.wrap .u32 (x28.PC_ + 4)), (x28.R_.g 15)] : Arr 16 Int) x28.PC_ x28.EPC_ x28.Cause_ x28.State_ x28.Why_ x28.Steps_ x28.Taken_ x28.Out_ x28.setup_ x28.input_)) := by rw [← h33]; exact Bt V29 rfl
 refine Bn (.take 0 (.take 1 (.take 2 (.take 3 (.take 6 (.take 7 (.last 4 (.take 5 (.take 8 (.last 9 .done)))))))))) (by kernel_rfl) (⟨L56, [], H32⟩ : St) ?_ ?_
 refine ydk 6 ⟨L64 ++ L66, [], H⟩ ?_
 refine Bo ⟨L64 ++ [E19] ++ L66, [], H⟩ (yd (X := X) (⟨L64 ++ L66, [], H⟩ : St) 35 V29 16 1 false (vu x28.PC_) (some 54)) ?_
 refine ydk 2 ⟨L78, [], H⟩ ?_
 refine Bo ⟨L78, [], W1⟩ (Gp (X := X) (lc := []) (h2 := W1) (⟨L78, [], H⟩ : St) 35 V29 14 1 (vu (IntKind.wrap .u32 (x28.PC_ + 4))) (by kernel_rfl) (by kernel_rfl) (by kernel_rfl) (by kernel_rfl) (by kernel_rfl) (by kernel_rfl) (Ca V29 (Nat.le_of_ble_eq_true rfl)) (by kernel_rfl)) ?_
 refine Fe (congrArg (fun q => (⟨L78, [], q⟩ : St)) h33) ?_
 exact yde
 obtain ⟨H35, h36, hF⟩ := Ci hF
 have V37 : Cq H35 i25 o26 29 = some (Bx (T_cpu_Cpu.mk (Ho [(x28.R_.g 0), (x28.R_.g 1), (x28.R_.g 2), (x28.R_.g 3), (x28.R_.g 4), (x28.R_.g 5), (x28.R_.g 6), (x28.R_.g 7), (x28.R_.g 8), (x28.R_.g 9), (x28.R_.g 10), (x28.R_.g 11), (x28.R_.g 12), (x28.R_.g 13), (IntKind.wrap .u32 (x28.PC_ + 4)), (x28.R_.g 15)] : Arr 16 Int) v30 x28.EPC_ x28.Cause_ x28.State_ x28.Why_ x28.Steps_ x28.Taken_ x28.Out_ x28.setup_ x28.input_)) := by rw [← h36]; exact Bt V34 rfl
 refine Ak ⟨[], [], H35⟩ ?_ ?_
 refine yr 4 ⟨L81, [], H32⟩ ?_
 refine Aj ⟨L81, [], W2⟩ (Gp (X := X) (lc := []) (h2 := W2) (⟨L81, [], H32⟩ : St) 35 V34 16 1 (vu v30) (by kernel_rfl) (by kernel_rfl) (by kernel_rfl) (by kernel_rfl) (by kernel_rfl) (by kernel_rfl) (Ca V34 (Nat.le_of_ble_eq_true rfl)) (by kernel_rfl)) ?_
 refine Bc (congrArg (fun q => (⟨L81, [], q⟩ : St)) h36) ?_
 exact ye
 exact ⟨H35, hF, (by kernel_rfl)⟩
 refine yF h24 ⟨(L59 p0), [B7], H⟩ ?_
 refine ysg ⟨(L59 p0) ++ [(63, vb (p1.Op_ == 27))], [B7], H⟩ ?_ (h := (by generalize p0 = qp0; cases qp0 <;> kernel_rfl))
 refine Ar (α := (Ai)) (fun x => (⟨[], [], x⟩ : St)) (fun x => Io x = some Hr) ?_ ?_
 rintro H38 hF
 replace hF : Io H38 = some Hr := hF
 unfold Io at hF
 exact ⟨H38, hF, (by kernel_rfl)⟩
 rcases Af hF with ⟨h39, hF⟩ | ⟨h39, hF⟩
 refine yT h39 ⟨(L49 p0), [B7], H⟩ ?_
 obtain ⟨i40, o41, h42, hF⟩ := Br hF
 let E24 : EN := (70, vo i40 o41)
 let L65 : List EN := [(0, vo i40 o41), E11, (65, vo i40 o41), (66, vo i40 o41), E22, E23, (69, vo i40 o41)]
 let L73 : List EN := L65 ++ [E24, (71, vo i40 (o41 + Int.toNat p1.A_))]
 obtain ⟨x43, V44, hF⟩ := Ab hF
 replace V44 := A8 V44
 obtain ⟨v45, h46, hF⟩ := Ab hF
 let E25 : EN := (72, vu v45)
 let E26 : EN := (73, vb (v45 != 0))
 obtain ⟨H48, c47, hF⟩ := Ab hF
 refine Bn (.take 0 (.take 1 (.take 2 (.take 3 (.take 4 (.take 5 (.take 6 (.last 7 (.take 8 (.last 9 .done)))))))))) (by kernel_rfl) (⟨[], [], H48⟩ : St) ?_ ?_
 refine Ao ⟨(L49 p0) ++ [(E21 p0)], [B7], H⟩ (by generalize p0 = qp0; cases qp0 <;> kernel_rfl) ?_
 refine Ao ⟨(L49 p0) ++ [(E21 p0), (66, vp p0)], [B7], H⟩ (by generalize p0 = qp0; cases qp0 <;> kernel_rfl) ?_
 refine Ao ⟨(L49 p0) ++ [(E21 p0), (66, vp p0), E22], [B7], H⟩ (by generalize p0 = qp0; cases qp0 <;> kernel_rfl) ?_
 refine Ao ⟨(L49 p0) ++ [(E21 p0), (66, vp p0), E22, E23], [B7], H⟩ (by generalize p0 = qp0; cases qp0 <;> kernel_rfl) ?_
 refine Fe (congrArg (fun q => (⟨[(0, vp q), E11, (65, vp q), (66, vp q), E22, E23], [B7], H⟩ : St)) h42) ?_
 refine ydk 2 ⟨L65 ++ [E24], [B7], H⟩ ?_
 refine Ao ⟨L73, [B7], H⟩ (Kv (X := X) (⟨L65 ++ [E24], [B7], H⟩ : St) 46 35 16 h46 i40 o41 (some 71) (by kernel_rfl) (by kernel_rfl) (by kernel_rfl) (by kernel_rfl)) ?_
 refine Bo ⟨L73 ++ [E25], [B7], H⟩ (Kj (X := X) (⟨L73, [B7], H⟩ : St) 35 16 h46 V44 0 (fun q => .int .u32 q) (some 72) (by kernel_rfl) (by kernel_rfl) (by kernel_rfl) (by kernel_rfl) (by kernel_rfl) (by kernel_rfl)) ?_
 refine ydt ⟨L73 ++ [E25, E26], [B7], H⟩ ?_
 refine Bo ⟨L73 ++ [E25, E26, (74, vN)], [B7], H48⟩ (yc (some 74) false false (⟨L73 ++ [E25, E26], [B7], H⟩ : St) (Mr H c47)) ?_
 exact yde
 exact ⟨H48, hF, (by kernel_rfl)⟩
 refine yF h39 ⟨(L59 p0), [B7], H⟩ ?_
 refine ysg ⟨(L59 p0) ++ [(75, vb (p1.Op_ == 28))], [B7], H⟩ ?_ (h := (by generalize p0 = qp0; cases qp0 <;> kernel_rfl))
 refine Ar (α := (Ai)) (fun x => (⟨[], [], x⟩ : St)) (fun x => Ip x = some Hr) ?_ ?_
 rintro H49 hF
 replace hF : Ip H49 = some Hr := hF
 unfold Ip at hF
 exact ⟨H49, hF, (by kernel_rfl)⟩
 rcases Af hF with ⟨h50, hF⟩ | ⟨h50, hF⟩
 refine yT h50 ⟨(L49 p0), [B7], H⟩ ?_
 obtain ⟨H52, c51, hF⟩ := Ab hF
 refine Ak ⟨[], [], H52⟩ ?_ ?_
 refine yr 4 ⟨(L83 p0), [B7], H⟩ ?_ (h := (by generalize p0 = qp0; cases qp0 <;> kernel_rfl))
 refine Aj ⟨(L83 p0) ++ [(81, vN)], [B7], H52⟩ (yc (some 81) false false (⟨(L83 p0), [B7], H⟩ : St) (Fs H c51) (hr := (by generalize p0 = qp0; cases qp0 <;> kernel_rfl)) (hs := (by generalize p0 = qp0; cases qp0 <;> kernel_rfl))) ?_
 exact ye
 exact ⟨H52, hF, (by kernel_rfl)⟩
 refine yF h50 ⟨(L59 p0), [B7], H⟩ ?_
 refine ysg ⟨(L59 p0) ++ [(82, vb (p1.Op_ == 29))], [B7], H⟩ ?_ (h := (by generalize p0 = qp0; cases qp0 <;> kernel_rfl))
 refine Ar (α := (Ai)) (fun x => (⟨[], [], x⟩ : St)) (fun x => Iq x = some Hr) ?_ ?_
 rintro H53 hF
 replace hF : Iq H53 = some Hr := hF
 unfold Iq at hF
 exact ⟨H53, hF, (by kernel_rfl)⟩
 rcases Af hF with ⟨h54, hF⟩ | ⟨h54, hF⟩
 refine yT h54 ⟨(L49 p0), [B7], H⟩ ?_
 obtain ⟨i55, o56, h57, hF⟩ := Br hF
 let E30 : EN := (89, vo i55 o56)
 let L69 : List EN := [(0, vo i55 o56), E11, (84, vo i55 o56), (85, vo i55 o56), E28, E29, (88, vo i55 o56)]
 let L75 : List EN := L69 ++ [E30, (90, vo i55 (o56 + Int.toNat p1.A_))]
 obtain ⟨x58, V59, hF⟩ := Ab hF
 replace V59 := A8 V59
 obtain ⟨v60, h61, hF⟩ := Ab hF
 obtain ⟨H63, c62, hF⟩ := Ab hF
 refine Bn (.take 0 (.take 1 (.take 2 (.take 3 (.take 4 (.take 5 (.take 6 (.last 7 (.last 8 .done))))))))) (by kernel_rfl) (⟨[], [], H63⟩ : St) ?_ ?_
 refine Ao ⟨(L49 p0) ++ [(E27 p0)], [B7], H⟩ (by generalize p0 = qp0; cases qp0 <;> kernel_rfl) ?_
 refine Ao ⟨(L49 p0) ++ [(E27 p0), (85, vp p0)], [B7], H⟩ (by generalize p0 = qp0; cases qp0 <;> kernel_rfl) ?_
 refine Ao ⟨(L49 p0) ++ [(E27 p0), (85, vp p0), E28], [B7], H⟩ (by generalize p0 = qp0; cases qp0 <;> kernel_rfl) ?_
 refine Ao ⟨(L49 p0) ++ [(E27 p0), (85, vp p0), E28, E29], [B7], H⟩ (by generalize p0 = qp0; cases qp0 <;> kernel_rfl) ?_
 refine Fe (congrArg (fun q => (⟨[(0, vp q), E11, (84, vp q), (85, vp q), E28, E29], [B7], H⟩ : St)) h57) ?_
 refine ydk 2 ⟨L69 ++ [E30], [B7], H⟩ ?_
 refine Ao ⟨L75, [B7], H⟩ (Kv (X := X) (⟨L69 ++ [E30], [B7], H⟩ : St) 46 35 16 h61 i55 o56 (some 90) (by kernel_rfl) (by kernel_rfl) (by kernel_rfl) (by kernel_rfl)) ?_
 refine Bo ⟨L75 ++ [(91, vu v60)], [B7], H⟩ (Kj (X := X) (⟨L75, [B7], H⟩ : St) 35 16 h61 V59 0 (fun q => .int .u32 q) (some 91) (by kernel_rfl) (by kernel_rfl) (by kernel_rfl) (by kernel_rfl) (by kernel_rfl) (by kernel_rfl)) ?_
 refine Bo ⟨L75 ++ [(91, vu v60), (92, vN)], [B7], H63⟩ (yc (some 92) false false (⟨L75 ++ [(91, vu v60)], [B7], H⟩ : St) (Fs H c62)) ?_
 exact yde
 exact ⟨H63, hF, (by kernel_rfl)⟩
 refine yF h54 ⟨(L59 p0), [B7], H⟩ ?_
 refine ysg ⟨(L49 p0) ++ [(93, vb (p1.Op_ == 31))], [B7], H⟩ ?_ (h := (by generalize p0 = qp0; cases qp0 <;> kernel_rfl))
 refine Ar (α := (Ai)) (fun x => (⟨[], [], x⟩ : St)) (fun x => Ir x = some Hr) ?_ ?_
 rintro H64 hF
 replace hF : Ir H64 = some Hr := hF
 unfold Ir at hF
 exact ⟨H64, hF, (by kernel_rfl)⟩
 rcases Af hF with ⟨h65, hF⟩ | ⟨h65, hF⟩
 refine yT h65 ⟨(L49 p0), [B7], H⟩ ?_
 refine Ah ?_
 refine Ah ?_
 obtain ⟨i66, o67, h68, hF⟩ := Br hF
 let E33 : EN := (99, vo i66 o67)
 let E36 : EN := (0, vo i66 o67)
 let E37 : EN := (105, vo i66 o67)
 let E38 : EN := (114, vo i66 o67)
 let E39 : EN := (121, vo i66 o67)
 let L48 : List EN := [E36, E11]
 let L50 : List EN := L48 ++ [E38, (115, vl 3 1), (116, vi p1.A_), (117, vo i66 o67)]
 let L51 : List EN := L50 ++ [(118, vo i66 o67), (119, vo i66 (o67 + 28))]
 let L54 : List EN := [E39, (122, vo i66 o67), (123, vo i66 (o67 + 22))]
 let L62 : List EN := L48 ++ [(95, vo i66 o67), (96, vo i66 o67), (97, vo i66 (o67 + 22))]
 let L72 : List EN := L48 ++ [(107, vo i66 o67), (108, vo i66 o67), (109, vo i66 (o67 + 22))]
 obtain ⟨x69, V70, hF⟩ := Ab hF
 replace V70 := A8 V70
 let W3 : Ai := Dp H i66 o67 (arM .u32 16 x69.R_ ++ [(.top, .int .u32 x69.PC_), (.top, .int .u32 x69.EPC_), (.top, .int .u32 x69.Cause_), (.top, .int .i64 x69.State_), (.top, .int .i64 x69.Why_), (.top, .int .i64 x69.Steps_), (.top, .int .i64 (IntKind.wrap .i64 (x69.Taken_ + 1))), ((.own 1), .sl 2 (List.map Ae x69.Out_)), (.top, .int .u32 x69.setup_.Entry_), (.top, .int .u32 x69.setup_.Vector_), (.top, .int .u32 x69.setup_.Guard_), (.top, .int .u32 x69.setup_.Limit_), ((.own 1), .sl 1 (List.map (eI .i32) x69.input_))])
 let E31 : EN := (104, vb (decide (x69.Taken_ ≥ (x69.input_.length : Int))))
 let E32 : EN := (98, vi x69.Taken_)
 let E34 : EN := (102, .one .bh (.sl 1 (List.map (eI .i32) x69.input_)))
 let E35 : EN := (103, vi (x69.input_.length : Int))
 let E40 : EN := (124, vi (IntKind.wrap .i64 (x69.Taken_ + 1)))
 let L57 : List EN := L54 ++ [E40, (125, vi (IntKind.wrap .i64 ((IntKind.wrap .i64 (x69.Taken_ + 1)) - 1)))]
 let L58 : List EN := L51 ++ [(120, .one .bh (.sl 1 (List.map (eI .i32) x69.input_)))]
 let L74 : List EN := L62 ++ [E32, E33, (100, vo i66 o67), (101, vo i66 (o67 + 28))]
 let L82 : List EN := L72 ++ [(110, vi x69.Taken_), (111, vi (IntKind.wrap .i64 (x69.Taken_ + 1))), (112, vo i66 o67), (113, vo i66 (o67 + 22))]
 refine Bn (.take 0 (.take 1 (.take 2 (.take 3 (.take 4 (.take 5 (.take 6 (.take 7 (.take 8 (.take 9 .done)))))))))) (by kernel_rfl) (⟨L48 ++ [E31], [B7], H⟩ : St) ?_ ?_
 refine Ao ⟨(L49 p0) ++ [(95, vp p0)], [B7], H⟩ (by generalize p0 = qp0; cases qp0 <;> kernel_rfl) ?_
 refine Fe (congrArg (fun q => (⟨[(0, vp q), E11, (95, vp q)], [B7], H⟩ : St)) h68) ?_
 refine ydk 2 ⟨L62, [B7], H⟩ ?_
 refine Ao ⟨L62 ++ [E32], [B7], H⟩ (yd (X := X) (⟨L62, [B7], H⟩ : St) 3 V70 22 1 false (vi x69.Taken_) (some 98)) ?_
 refine ydk 3 ⟨L74, [B7], H⟩ ?_
 refine Ao ⟨L74 ++ [E34], [B7], H⟩ (yd (X := X) (⟨L74, [B7], H⟩ : St) 48 V70 28 1 false (.one .bh (.sl 1 (List.map (eI .i32) x69.input_))) (some 102)) ?_
 refine Ao ⟨L74 ++ [E34, E35], [B7], H⟩ (yl (⟨L74 ++ [E34], [B7], H⟩ : St) x69.input_ (eI .i32) (some 103)) ?_
 refine ydt ⟨L74 ++ [E34, E35, E31], [B7], H⟩ ?_
 exact yde
 rcases Af hF with ⟨h71, hF⟩ | ⟨h71, hF⟩
 refine yT h71 ⟨[E36], [], H⟩ ?_
 refine Ah ?_
 obtain ⟨H73, c72, hF⟩ := Ab hF
 refine Ak ⟨[], [], H73⟩ ?_ ?_
 refine yr 1 ⟨[E36, E37], [], H⟩ ?_
 refine Aj ⟨[E36, E37, (106, vN)], [], H73⟩ (yc (some 106) false false (⟨[E36, E37], [], H⟩ : St) (Fs H c72)) ?_
 exact ye
 refine As ?_
 obtain e0 := Al hF
 subst e0
 exact yi (vN)
 refine yF h71 ⟨L48, [B7], H⟩ ?_
 refine Am ?_
 refine Ah ?_
 obtain ⟨H74, h75, hF⟩ := Ci hF
 have V76 : Cq H74 i66 o67 29 = some (Bx (T_cpu_Cpu.mk x69.R_ x69.PC_ x69.EPC_ x69.Cause_ x69.State_ x69.Why_ x69.Steps_ (IntKind.wrap .i64 (x69.Taken_ + 1)) x69.Out_ x69.setup_ x69.input_)) := by rw [← h75]; exact Bt V70 rfl
 refine Ak ⟨L48, [B7], H74⟩ ?_ ?_
 refine yr 3 ⟨L72, [B7], H⟩ ?_
 refine Aj ⟨L72 ++ [(110, vi x69.Taken_)], [B7], H⟩ (yd (X := X) (⟨L72, [B7], H⟩ : St) 3 V70 22 1 false (vi x69.Taken_) (some 110)) ?_
 refine yr 3 ⟨L82, [B7], H⟩ ?_
 refine Aj ⟨L82, [B7], W3⟩ (Gp (X := X) (lc := []) (h2 := W3) (⟨L82, [B7], H⟩ : St) 3 V70 22 1 (vi (IntKind.wrap .i64 (x69.Taken_ + 1))) (by kernel_rfl) (by kernel_rfl) (by kernel_rfl) (by kernel_rfl) (by kernel_rfl) (by kernel_rfl) (Ca V70 (Nat.le_of_ble_eq_true rfl)) (by kernel_rfl)) ?_
 refine Bc (congrArg (fun q => (⟨L82, [B7], q⟩ : St)) h75) ?_
 exact ye
 obtain ⟨x77, h78, hF⟩ := Ab hF
 let E6 : EN := (128, vu (IntKind.wrap .u32 x77))
 let E41 : EN := (127, .one .top (.int .i32 x77))
 let L67 : List EN := L58 ++ L57 ++ [(126, .one .top (.rd .bh .bh [.int .i32 x77] 0))]
 let L77 : List EN := L67 ++ [E41, E6]
 let L84 : List EN := L51 ++ [(120, .one .top .junk)] ++ L57 ++ [(126, .one .top .junk), E41, E6, (129, vN)]
 obtain ⟨H80, c79, hF⟩ := Ab hF
 let K85 : Sch := .take 12 (.last 13 (.take 14 (.last 15 .done)))
 refine Bn (.take 0 (.take 1 (.take 2 (.take 3 (.take 4 (.take 5 (.take 7 (.take 8 (.take 9 (.alt 6 (.last 10 (.take 11 K85)) (.last 10 (.take 11 (.last 6 K85))))))))))))) (by kernel_rfl) (⟨[], [], H80⟩ : St) ?_ ?_
 refine ydk 9 ⟨L51 ++ L54, [B7], H74⟩ ?_
 refine jV (⟨L84, [B7], H80⟩ : St) ?_ ?_
 refine P2 ⟨L58 ++ L54, [B7], H74⟩ (yd (X := X) (⟨L51 ++ L54, [B7], H74⟩ : St) 48 V76 28 1 false (.one .bh (.sl 1 (List.map (eI .i32) x69.input_))) (some 120)) ?_ ?_
 refine Bz ⟨L58 ++ L54 ++ [E40], [B7], H74⟩ (yd (X := X) (⟨L58 ++ L54, [B7], H74⟩ : St) 3 V76 22 1 false (vi (IntKind.wrap .i64 (x69.Taken_ + 1))) (some 124)) ?_
 refine yqt ⟨L58 ++ L57, [B7], H74⟩ ?_
 refine Tn ⟨L67, [B7], H74⟩ (Qw (X := X) (⟨L58 ++ L57, [B7], H74⟩ : St) 48 21 1 h78 (eI .i32) .bh (some 126) (by kernel_rfl) (by kernel_rfl) (by kernel_rfl) (by kernel_rfl)) ?_
 refine yql ⟨L67 ++ [E41], [B7], H74⟩ ?_
 refine yqt ⟨L77, [B7], H74⟩ ?_
 refine Bz ⟨L84, [B7], H80⟩ (yc (some 129) false false (⟨L77, [B7], H74⟩ : St) (Bf H74 c79)) ?_
 exact yqe
 refine Bz ⟨L51 ++ L54 ++ [E40], [B7], H74⟩ (yd (X := X) (⟨L51 ++ L54, [B7], H74⟩ : St) 3 V76 22 1 false (vi (IntKind.wrap .i64 (x69.Taken_ + 1))) (some 124)) ?_
 refine yqt ⟨L51 ++ L57, [B7], H74⟩ ?_
 refine Bz ⟨L58 ++ L57, [B7], H74⟩ (yd (X := X) (⟨L51 ++ L57, [B7], H74⟩ : St) 48 V76 28 1 false (.one .bh (.sl 1 (List.map (eI .i32) x69.input_))) (some 120)) ?_
 refine Tn ⟨L67, [B7], H74⟩ (Qw (X := X) (⟨L58 ++ L57, [B7], H74⟩ : St) 48 21 1 h78 (eI .i32) .bh (some 126) (by kernel_rfl) (by kernel_rfl) (by kernel_rfl) (by kernel_rfl)) ?_
 refine yql ⟨L67 ++ [E41], [B7], H74⟩ ?_
 refine yqt ⟨L77, [B7], H74⟩ ?_
 refine Bz ⟨L84, [B7], H80⟩ (yc (some 129) false false (⟨L77, [B7], H74⟩ : St) (Bf H74 c79)) ?_
 exact yqe
 kernel_rfl
 exact ⟨H80, hF, (by kernel_rfl)⟩
 refine yF h65 ⟨(L49 p0), [B7], H⟩ ?_
 obtain ⟨i81, o82, h83, hF⟩ := Br hF
 let E44 : EN := (12, vo i81 o82)
 let E45 : EN := (16, vo i81 o82)
 let E46 : EN := (17, vo i81 o82)
 let L52 : List EN := [(0, vo i81 o82), E11, (7, vo i81 o82), (8, vo i81 o82), E42, E43, (11, vo i81 o82)]
 let L53 : List EN := L52 ++ [E44, (13, vo i81 (o82 + Int.toNat p1.A_))]
 let L55 : List EN := [E45, E46, (18, vo i81 (o82 + 24)), (19, vo i81 (o82 + 27))]
 obtain ⟨x84, V85, hF⟩ := Ab hF
 replace V85 := A8 V85
 let E47 : EN := (20, vu x84.setup_.Limit_)
 let L61 : List EN := L55 ++ [E47, (21, .one .top (.int .i32 (IntKind.wrap .i32 x84.setup_.Limit_)))]
 obtain ⟨v86, h87, hF⟩ := Ab hF
 let L60 : List EN := L53 ++ [(14, vu v86), (15, .one .top (.int .i32 (IntKind.wrap .i32 v86)))]
 let L70 : List EN := L60 ++ L61 ++ [(22, vb (decide ((IntKind.wrap .i32 v86) ≥ (IntKind.wrap .i32 x84.setup_.Limit_))))]
 obtain ⟨H89, c88, hF⟩ := Ab hF
 refine Bn (.take 0 (.take 1 (.take 2 (.take 3 (.take 4 (.take 5 (.take 6 (.take 9 (.take 10 (.take 11 (.take 12 (.alt 7 (.take 8 (.last 13 (.take 14 (.take 15 (.last 16 .done))))) (.last 13 (.take 14 (.last 7 (.take 8 (.take 15 (.last 16 .done)))))))))))))))))) (by kernel_rfl) (⟨[], [], H89⟩ : St) ?_ ?_
 refine Ao ⟨(L49 p0) ++ [(7, vp p0)], [B7], H⟩ (by generalize p0 = qp0; cases qp0 <;> kernel_rfl) ?_
 refine Ao ⟨(L49 p0) ++ [(7, vp p0), (8, vp p0)], [B7], H⟩ (by generalize p0 = qp0; cases qp0 <;> kernel_rfl) ?_
 refine Ao ⟨(L49 p0) ++ [(7, vp p0), (8, vp p0), E42], [B7], H⟩ (by generalize p0 = qp0; cases qp0 <;> kernel_rfl) ?_
 refine Ao ⟨(L49 p0) ++ [(7, vp p0), (8, vp p0), E42, E43], [B7], H⟩ (by generalize p0 = qp0; cases qp0 <;> kernel_rfl) ?_
 refine Fe (congrArg (fun q => (⟨[(0, vp q), E11, (7, vp q), (8, vp q), E42, E43], [B7], H⟩ : St)) h83) ?_
 refine ydk 2 ⟨L52 ++ [E44], [B7], H⟩ ?_
 refine Ao ⟨L53, [B7], H⟩ (Kv (X := X) (⟨L52 ++ [E44], [B7], H⟩ : St) 46 35 16 h87 i81 o82 (some 13) (by kernel_rfl) (by kernel_rfl) (by kernel_rfl) (by kernel_rfl)) ?_
 refine ydk 4 ⟨L53 ++ L55, [B7], H⟩ ?_
 refine jV (⟨L70 ++ [(23, vN)], [B7], H89⟩ : St) ?_ ?_
 refine P2 ⟨L53 ++ [(14, vu v86)] ++ L55, [B7], H⟩ (Kj (X := X) (⟨L53 ++ L55, [B7], H⟩ : St) 35 16 h87 V85 0 (fun q => .int .u32 q) (some 14) (by kernel_rfl) (by kernel_rfl) (by kernel_rfl) (by kernel_rfl) (by kernel_rfl) (by kernel_rfl)) ?_ ?_
 refine yqt ⟨L60 ++ L55, [B7], H⟩ ?_
 refine Bz ⟨L60 ++ L55 ++ [E47], [B7], H⟩ (yd (X := X) (⟨L60 ++ L55, [B7], H⟩ : St) 35 V85 27 1 false (vu x84.setup_.Limit_) (some 20)) ?_
 refine yqt ⟨L60 ++ L61, [B7], H⟩ ?_
 refine yqt ⟨L70, [B7], H⟩ ?_
 refine Bz ⟨L70 ++ [(23, vN)], [B7], H89⟩ (yc (some 23) false false (⟨L70, [B7], H⟩ : St) (Mr H c88)) ?_
 exact yqe
 refine Bz ⟨L53 ++ L55 ++ [E47], [B7], H⟩ (yd (X := X) (⟨L53 ++ L55, [B7], H⟩ : St) 35 V85 27 1 false (vu x84.setup_.Limit_) (some 20)) ?_
 refine yqt ⟨L53 ++ L61, [B7], H⟩ ?_
 refine Bz ⟨L53 ++ [(14, vu v86)] ++ L61, [B7], H⟩ (Kj (X := X) (⟨L53 ++ L61, [B7], H⟩ : St) 35 16 h87 V85 0 (fun q => .int .u32 q) (some 14) (by kernel_rfl) (by kernel_rfl) (by kernel_rfl) (by kernel_rfl) (by kernel_rfl) (by kernel_rfl)) ?_
 refine yqt ⟨L60 ++ L61, [B7], H⟩ ?_
 refine yqt ⟨L70, [B7], H⟩ ?_
 refine Bz ⟨L70 ++ [(23, vN)], [B7], H89⟩ (yc (some 23) false false (⟨L70, [B7], H⟩ : St) (Mr H c88)) ?_
 exact yqe
 kernel_rfl
 exact ⟨H89, hF, (by kernel_rfl)⟩
noncomputable def Cb (i1 : Nat) (o2 : Nat) (H28 : Ai) : Option (Ai × Int) :=
  Ag (Ba H28 i1 o2) fun x29 =>
  some (H28, x29.State_)
noncomputable def Is (i1 : Nat) (o2 : Nat) (H35 : Ai) : Option (Ai × Int) :=
  Cb i1 o2 H35
noncomputable def Iu (i1 : Nat) (o2 : Nat) (H40 : Ai) : Option (Ai × Int) :=
  Is i1 o2 H40
noncomputable def Iv (H7 : Ai) (i1 : Nat) (o2 : Nat) (r18 : T_instr_Instr) (j39 : Bool) : Option (Ai × Int) :=
  if j39 = true then (Ag (Co H7 (Ptr.at i1 o2) r18) fun H43 =>
  Iu i1 o2 H43)
  else (Ag (Cm H7 (Ptr.at i1 o2) r18) fun H45 =>
  Iu i1 o2 H45)
noncomputable def Eh (H7 : Ai) (i1 : Nat) (o2 : Nat) (p1 : Ptr) (r18 : T_instr_Instr) (r26 : Int) (j34 : Bool) : Option (Ai × Int) :=
  if j34 = true then (Ag (Bh H7 (Ptr.at i1 o2) p1 r18) fun H38 =>
  Is i1 o2 H38)
  else (if (r26 == 2) = true then (Iv H7 i1 o2 r18 (r26 == 2))
  else (Iv H7 i1 o2 r18 (r26 == 4)))
noncomputable def Dc (H7 : Ai) (i1 : Nat) (o2 : Nat) (p1 : Ptr) (r18 : T_instr_Instr) (r26 : Int) (j48 : Bool) : Option (Ai × Int) :=
  Eh H7 i1 o2 p1 r18 r26 j48
noncomputable def Ev (H : Ai) (p0 : Ptr) (p1 : Ptr) : Option (Ai × Int) :=
  (p0).bnd fun i1 o2 =>
  Ag (Ba H i1 o2) fun x4 =>
  if (x4.State_ != 0) = true then (some (H, x4.State_))
  else (bnd (Bj H i1 o2 (T_cpu_Cpu.mk x4.R_ x4.PC_ x4.EPC_ x4.Cause_ x4.State_ x4.Why_ (IntKind.wrap .i64 (x4.Steps_ + 1)) x4.Taken_ x4.Out_ x4.setup_ x4.input_)) fun H7 =>
  Ch (Gx H7 p1 x4.PC_) fun r10 r11 =>
  if (r11 != 0) = true then (Ag (Bq H7 (Ptr.at i1 o2) r11) fun H15 =>
  Ag (Ba H15 i1 o2) fun x16 =>
  some (H15, x16.State_))
  else (Ch (Kf r10) fun r18 r19 =>
  if (r19 != 0) = true then (Ag (Bq H7 (Ptr.at i1 o2) r19) fun H23 =>
  Ag (Ba H23 i1 o2) fun x24 =>
  some (H23, x24.State_))
  else (Ag (D3 r18.Op_) fun r26 =>
  if (r26 == 5) = true then (Ag (Bb H7 (Ptr.at i1 o2) r18) fun H33 =>
  Cb i1 o2 H33)
  else (if (r26 == 3) = true then (Eh H7 i1 o2 p1 r18 r26 (r26 == 3))
  else (if (r26 == 1) = true then (Dc H7 i1 o2 p1 r18 r26 (r26 == 1))
  else (Dc H7 i1 o2 p1 r18 r26 (r26 == 7)))))))
theorem Qx (H : Ai) {p0 : Ptr} {p1 : Ptr} {ra : Int} {Hr : Ai} (hF : Ev H p0 p1 = some (Hr, ra)) : evS X 59 [.one .top (Ptr.av p0), .one .top (Ptr.av p1)] H = some (.one .top (.int .i64 ra), Hr) := by
 let E2 : Ptr → EN := fun z0 => (1, vp z0)
 let E11 : EN := (7, vl 7 0)
 let S43 : Ptr → Ptr → St := fun z0 z1 => ⟨[(0, vp z0), (E2 z1)], [], H⟩
 refine yf Try.func59 false (S43 p0 p1) ?_
 unfold Ev at hF
 refine ysg (S43 p0 p1) ?_ (h := (by generalize p0 = qp0; generalize p1 = qp1; cases qp0 <;> cases qp1 <;> kernel_rfl))
 refine Ah ?_
 refine Ah ?_
 obtain ⟨i1, o2, h3, hF⟩ := Br hF
 let E4 : EN := (0, vo i1 o2)
 let E8 : EN := (38, vo i1 o2)
 let E9 : EN := (39, vo i1 o2)
 let E15 : EN := (52, vo i1 o2)
 let E16 : EN := (53, vo i1 o2)
 let E19 : EN := (81, vo i1 o2)
 let E20 : EN := (82, vo i1 o2)
 let E21 : EN := (64, vo i1 o2)
 let E23 : EN := (78, vo i1 o2)
 let E25 : EN := (59, vo i1 o2)
 let L27 : Ptr → List EN := fun z0 => [E4, (E2 z0)]
 let L28 : Ptr → List EN := fun z0 => (L27 z0) ++ [E11]
 let L29 : List EN := [E4, E11]
 let L32 : Ptr → List EN := fun z0 => (L27 z0) ++ [(17, vo i1 o2), (18, vo i1 o2), (19, vo i1 (o2 + 21))]
 let L33 : Ptr → List EN := fun z0 => [(25, vp z0), (26, vo i1 o2), (27, vo i1 o2), (28, vo i1 (o2 + 16))]
 let L34 : Ptr → List EN := fun z0 => (L27 z0) ++ [(8, vo i1 o2), (9, vo i1 o2), (10, vo i1 (o2 + 19))]
 let L36 : List EN := [E4, (13, vo i1 o2), (14, vo i1 o2), (15, vo i1 (o2 + 19))]
 let L38 : List EN := [E4, E8, E9, (40, vo i1 (o2 + 19))]
 let L40 : List EN := [E4, E15, E16, (54, vo i1 (o2 + 19))]
 let L41 : List EN := [E4, E19, E20, (83, vo i1 (o2 + 19))]
 obtain ⟨x4, V5, hF⟩ := Ab hF
 replace V5 := A8 V5
 let W1 : Ai := Dp H i1 o2 (arM .u32 16 x4.R_ ++ [(.top, .int .u32 x4.PC_), (.top, .int .u32 x4.EPC_), (.top, .int .u32 x4.Cause_), (.top, .int .i64 x4.State_), (.top, .int .i64 x4.Why_), (.top, .int .i64 (IntKind.wrap .i64 (x4.Steps_ + 1))), (.top, .int .i64 x4.Taken_), ((.own 1), .sl 2 (List.map Ae x4.Out_)), (.top, .int .u32 x4.setup_.Entry_), (.top, .int .u32 x4.setup_.Vector_), (.top, .int .u32 x4.setup_.Guard_), (.top, .int .u32 x4.setup_.Limit_), ((.own 1), .sl 1 (List.map (eI .i32) x4.input_))])
 let E3 : EN := (12, vb (x4.State_ != 0))
 let E6 : EN := (29, vu x4.PC_)
 let L35 : Ptr → List EN := fun z0 => (L32 z0) ++ [(20, vi x4.Steps_), (21, vi (IntKind.wrap .i64 (x4.Steps_ + 1))), (22, vo i1 o2), (23, vo i1 (o2 + 21))]
 refine Ak ⟨(L27 p1) ++ [E3], [], H⟩ ?_ ?_
 refine yr 1 ⟨[(0, vp p0), (E2 p1), (8, vp p0)], [], H⟩ ?_ (h := (by generalize p0 = qp0; generalize p1 = qp1; cases qp0 <;> cases qp1 <;> kernel_rfl))
 refine Bc (congrArg (fun q => (⟨[(0, vp q), (E2 p1), (8, vp q)], [], H⟩ : St)) h3) ?_
 refine yr 1 ⟨(L27 p1) ++ [(8, vo i1 o2), (9, vo i1 o2)], [], H⟩ ?_ (h := (by generalize p1 = qp0; cases qp0 <;> kernel_rfl))
 refine yr 1 ⟨(L34 p1), [], H⟩ ?_ (h := (by generalize p1 = qp0; cases qp0 <;> kernel_rfl))
 refine Aj ⟨(L34 p1) ++ [(11, vi x4.State_)], [], H⟩ (aM (X := X) (⟨(L34 p1), [], H⟩ : St) 3 V5 19 1 false (vi x4.State_) (some 11) (by generalize p1 = qp0; cases qp0 <;> kernel_rfl) (by generalize p1 = qp0; cases qp0 <;> kernel_rfl) (by generalize p1 = qp0; cases qp0 <;> kernel_rfl) (by generalize p1 = qp0; cases qp0 <;> kernel_rfl) (by generalize p1 = qp0; cases qp0 <;> kernel_rfl) (by generalize p1 = qp0; cases qp0 <;> kernel_rfl)) ?_
 refine yr 1 ⟨(L34 p1) ++ [(11, vi x4.State_), E3], [], H⟩ ?_ (h := (by generalize p1 = qp0; cases qp0 <;> kernel_rfl))
 exact ye
 rcases Af hF with ⟨h6, hF⟩ | ⟨h6, hF⟩
 refine yT h6 ⟨[E4], [], H⟩ ?_
 refine yso ⟨[(4, vi x4.State_)], [], H⟩ ?_ ?_
 refine yr 3 ⟨L36, [], H⟩ ?_
 refine Aj ⟨L36 ++ [(16, vi x4.State_)], [], H⟩ (yd (X := X) (⟨L36, [], H⟩ : St) 3 V5 19 1 false (vi x4.State_) (some 16)) ?_
 refine yr 1 ⟨[E4, (4, vi x4.State_), (13, vo i1 o2), (14, vo i1 o2), (15, vo i1 (o2 + 19)), (16, vi x4.State_)], [], H⟩ ?_
 exact ye
 refine As ?_
 obtain ⟨e0, e1⟩ := Ap hF
 subst e0
 subst e1
 exact yi (vi x4.State_)
 refine yF h6 ⟨(L27 p1), [], H⟩ ?_
 refine Am ?_
 refine Ah ?_
 obtain ⟨H7, h8, hF⟩ := Ci hF
 have V9 : Cq H7 i1 o2 29 = some (Bx (T_cpu_Cpu.mk x4.R_ x4.PC_ x4.EPC_ x4.Cause_ x4.State_ x4.Why_ (IntKind.wrap .i64 (x4.Steps_ + 1)) x4.Taken_ x4.Out_ x4.setup_ x4.input_)) := by rw [← h8]; exact Bt V5 rfl
 refine Ak ⟨(L27 p1), [], H7⟩ ?_ ?_
 refine yr 3 ⟨(L32 p1), [], H⟩ ?_ (h := (by generalize p1 = qp0; cases qp0 <;> kernel_rfl))
 refine Aj ⟨(L32 p1) ++ [(20, vi x4.Steps_)], [], H⟩ (aM (X := X) (⟨(L32 p1), [], H⟩ : St) 3 V5 21 1 false (vi x4.Steps_) (some 20) (by generalize p1 = qp0; cases qp0 <;> kernel_rfl) (by generalize p1 = qp0; cases qp0 <;> kernel_rfl) (by generalize p1 = qp0; cases qp0 <;> kernel_rfl) (by generalize p1 = qp0; cases qp0 <;> kernel_rfl) (by generalize p1 = qp0; cases qp0 <;> kernel_rfl) (by generalize p1 = qp0; cases qp0 <;> kernel_rfl)) ?_
 refine yr 3 ⟨(L35 p1), [], H⟩ ?_ (h := (by generalize p1 = qp0; cases qp0 <;> kernel_rfl))
 refine Aj ⟨(L35 p1), [], W1⟩ (Gp (X := X) (lc := []) (h2 := W1) (⟨(L35 p1), [], H⟩ : St) 3 V5 21 1 (vi (IntKind.wrap .i64 (x4.Steps_ + 1))) (by generalize p1 = qp0; cases qp0 <;> kernel_rfl) (by generalize p1 = qp0; cases qp0 <;> kernel_rfl) (by generalize p1 = qp0; cases qp0 <;> kernel_rfl) (by generalize p1 = qp0; cases qp0 <;> kernel_rfl) (by generalize p1 = qp0; cases qp0 <;> kernel_rfl) (by generalize p1 = qp0; cases qp0 <;> kernel_rfl) (Ca V5 (Nat.le_of_ble_eq_true rfl)) (by generalize p1 = qp0; cases qp0 <;> kernel_rfl)) ?_
 refine Bc (congrArg (fun q => (⟨(L35 p1), [], q⟩ : St)) h8) ?_
 exact ye
 refine Ah ?_
 obtain ⟨r10, r11, c12, hF⟩ := Bg hF
 let E5 : EN := (6, vi r11)
 let E7 : EN := (30, .tup [vu r10, vi r11])
 let E13 : EN := (43, vu r10)
 let L31 : Ptr → List EN := fun z0 => (L27 z0) ++ [(5, vu r10)]
 let L37 : List EN := [E4, E5, (35, vo i1 o2), (36, vi r11)]
 refine Ak ⟨(L31 p1) ++ [E5], [], H7⟩ ?_ ?_
 refine yr 4 ⟨(L27 p1) ++ (L33 p1), [], H7⟩ ?_ (h := (by generalize p1 = qp0; cases qp0 <;> kernel_rfl))
 refine Aj ⟨(L27 p1) ++ (L33 p1) ++ [E6], [], H7⟩ (aM (X := X) (⟨(L27 p1) ++ (L33 p1), [], H7⟩ : St) 35 V9 16 1 false (vu x4.PC_) (some 29) (by generalize p1 = qp0; cases qp0 <;> kernel_rfl) (by generalize p1 = qp0; cases qp0 <;> kernel_rfl) (by generalize p1 = qp0; cases qp0 <;> kernel_rfl) (by generalize p1 = qp0; cases qp0 <;> kernel_rfl) (by generalize p1 = qp0; cases qp0 <;> kernel_rfl) (by generalize p1 = qp0; cases qp0 <;> kernel_rfl)) ?_
 refine Aj ⟨(L27 p1) ++ (L33 p1) ++ [E6, E7], [], H7⟩ (yc (some 30) true false (⟨(L27 p1) ++ (L33 p1) ++ [E6], [], H7⟩ : St) (Sl H7 c12) (hr := (by generalize p1 = qp0; cases qp0 <;> kernel_rfl)) (hs := (by generalize p1 = qp0; cases qp0 <;> kernel_rfl))) ?_
 refine yr 5 ⟨(L31 p1) ++ [E5, (24, .tup [vu r10, vi r11])] ++ (L33 p1) ++ [E6, E7, (31, vu r10), (32, vi r11)], [], H7⟩ ?_ (h := (by generalize p1 = qp0; cases qp0 <;> kernel_rfl))
 exact ye
 refine Ah ?_
 refine ysg ⟨(L31 p1) ++ [E5, (34, vb (r11 != 0))], [], H7⟩ ?_ (h := (by generalize p1 = qp0; cases qp0 <;> kernel_rfl))
 rcases Af hF with ⟨h13, hF⟩ | ⟨h13, hF⟩
 refine yT h13 ⟨[E4, E5], [], H7⟩ ?_
 refine Ah ?_
 obtain ⟨H15, c14, hF⟩ := Ab hF
 refine Ak ⟨[E4], [], H15⟩ ?_ ?_
 refine yr 2 ⟨L37, [], H7⟩ ?_
 refine Aj ⟨L37 ++ [(37, vN)], [], H15⟩ (yc (some 37) false false (⟨L37, [], H7⟩ : St) (Ff H7 c14)) ?_
 exact ye
 refine Ah ?_
 obtain ⟨x16, V17, hF⟩ := Ab hF
 replace V17 := A8 V17
 refine Ak ⟨[(4, vi x16.State_)], [], H15⟩ ?_ ?_
 refine yr 2 ⟨[E4, E8, E9], [], H15⟩ ?_
 refine yr 1 ⟨L38, [], H15⟩ ?_
 refine Aj ⟨L38 ++ [(41, vi x16.State_)], [], H15⟩ (yd (X := X) (⟨L38, [], H15⟩ : St) 3 V17 19 1 false (vi x16.State_) (some 41)) ?_
 refine yr 1 ⟨[E4, (4, vi x16.State_), E8, E9, (40, vo i1 (o2 + 19)), (41, vi x16.State_)], [], H15⟩ ?_
 exact ye
 refine As ?_
 obtain ⟨e0, e1⟩ := Ap hF
 subst e0
 subst e1
 exact yi (vi x16.State_)
 refine yF h13 ⟨(L31 p1), [], H7⟩ ?_
 refine Am ?_
 refine Ah ?_
 obtain ⟨r18, r19, c20, hF⟩ := Bg hF
 let E10 : EN := (6, vi r19)
 let B12 : EB := (7, (Aq r18))
 let E14 : EN := (44, .tup [.agg (Aq r18), vi r19])
 let E17 : EN := (57, vi r18.Op_)
 let E22 : EN := (65, .agg (Aq r18))
 let E24 : EN := (79, .agg (Aq r18))
 let E26 : EN := (60, .agg (Aq r18))
 let L39 : List EN := [E4, E10, (49, vo i1 o2), (50, vi r19)]
 let L42 : Ptr → List EN := fun z0 => (L28 z0) ++ [(71, vo i1 o2), (72, vp z0), (73, .agg (Aq r18))]
 refine Ak ⟨(L27 p1) ++ [E10, E11], [B12], H7⟩ ?_ ?_
 refine yr 1 ⟨(L31 p1) ++ [E13], [], H7⟩ ?_ (h := (by generalize p1 = qp0; cases qp0 <;> kernel_rfl))
 refine Aj ⟨(L31 p1) ++ [E13, E14], [], H7⟩ (yc (some 44) true false (⟨(L31 p1) ++ [E13], [], H7⟩ : St) (Wa H7 c20) (hr := (by generalize p1 = qp0; cases qp0 <;> kernel_rfl)) (hs := (by generalize p1 = qp0; cases qp0 <;> kernel_rfl))) ?_
 refine yr 6 ⟨(L31 p1) ++ [E10, E11, (42, .tup [.agg (Aq r18), vi r19]), E13, E14, (45, .agg (Aq r18)), (46, vi r19)], [B12], H7⟩ ?_ (h := (by generalize p1 = qp0; cases qp0 <;> kernel_rfl))
 exact ye
 refine Ah ?_
 refine ysg ⟨(L27 p1) ++ [E10, E11, (48, vb (r19 != 0))], [B12], H7⟩ ?_ (h := (by generalize p1 = qp0; cases qp0 <;> kernel_rfl))
 rcases Af hF with ⟨h21, hF⟩ | ⟨h21, hF⟩
 refine yT h21 ⟨[E4, E10], [], H7⟩ ?_
 refine Ah ?_
 obtain ⟨H23, c22, hF⟩ := Ab hF
 refine Ak ⟨[E4], [], H23⟩ ?_ ?_
 refine yr 2 ⟨L39, [], H7⟩ ?_
 refine Aj ⟨L39 ++ [(51, vN)], [], H23⟩ (yc (some 51) false false (⟨L39, [], H7⟩ : St) (Ff H7 c22)) ?_
 exact ye
 refine Ah ?_
 obtain ⟨x24, V25, hF⟩ := Ab hF
 replace V25 := A8 V25
 refine Ak ⟨[(4, vi x24.State_)], [], H23⟩ ?_ ?_
 refine yr 2 ⟨[E4, E15, E16], [], H23⟩ ?_
 refine yr 1 ⟨L40, [], H23⟩ ?_
 refine Aj ⟨L40 ++ [(55, vi x24.State_)], [], H23⟩ (yd (X := X) (⟨L40, [], H23⟩ : St) 3 V25 19 1 false (vi x24.State_) (some 55)) ?_
 refine yr 1 ⟨[E4, (4, vi x24.State_), E15, E16, (54, vo i1 (o2 + 19)), (55, vi x24.State_)], [], H23⟩ ?_
 exact ye
 refine As ?_
 obtain ⟨e0, e1⟩ := Ap hF
 subst e0
 subst e1
 exact yi (vi x24.State_)
 refine yF h21 ⟨(L28 p1), [B12], H7⟩ ?_
 refine Am ?_
 refine Ah ?_
 refine Ah ?_
 obtain ⟨r26, c27, hF⟩ := Ab hF
 let E18 : EN := (58, vi r26)
 let L30 : Ptr → List EN := fun z0 => (L28 z0) ++ [E18]
 refine Ak ⟨(L30 p1), [B12], H7⟩ ?_ ?_
 refine yr 2 ⟨(L28 p1) ++ [(56, vl 7 0), E17], [B12], H7⟩ ?_ (h := (by generalize p1 = qp0; cases qp0 <;> kernel_rfl))
 refine Aj ⟨(L28 p1) ++ [(56, vl 7 0), E17, E18], [B12], H7⟩ (yc (some 58) true false (⟨(L28 p1) ++ [(56, vl 7 0), E17], [B12], H7⟩ : St) (Lt H7 c27) (hr := (by generalize p1 = qp0; cases qp0 <;> kernel_rfl)) (hs := (by generalize p1 = qp0; cases qp0 <;> kernel_rfl))) ?_
 exact ye
 refine Bs ?_
 refine ysg ⟨(L30 p1) ++ [(62, vb (r26 == 5))], [B12], H7⟩ ?_ (h := (by generalize p1 = qp0; cases qp0 <;> kernel_rfl))
 refine Ar (α := (Ai)) (fun x => (⟨[E4], [], x⟩ : St)) (fun x => Cb i1 o2 x = some (Hr, ra)) ?_ ?_
 rintro H28 hF
 replace hF : Cb i1 o2 H28 = some (Hr, ra) := hF
 unfold Cb at hF
 refine Ah ?_
 obtain ⟨x29, V30, hF⟩ := Ab hF
 replace V30 := A8 V30
 refine Ak ⟨[(4, vi x29.State_)], [], H28⟩ ?_ ?_
 refine yr 2 ⟨[E4, E19, E20], [], H28⟩ ?_
 refine yr 1 ⟨L41, [], H28⟩ ?_
 refine Aj ⟨L41 ++ [(84, vi x29.State_)], [], H28⟩ (yd (X := X) (⟨L41, [], H28⟩ : St) 3 V30 19 1 false (vi x29.State_) (some 84)) ?_
 refine yr 1 ⟨[E4, (4, vi x29.State_), E19, E20, (83, vo i1 (o2 + 19)), (84, vi x29.State_)], [], H28⟩ ?_
 exact ye
 refine As ?_
 obtain ⟨e0, e1⟩ := Ap hF
 subst e0
 subst e1
 exact yi (vi x29.State_)
 rcases Af hF with ⟨h31, hF⟩ | ⟨h31, hF⟩
 refine yT h31 ⟨L29, [B12], H7⟩ ?_
 obtain ⟨H33, c32, hF⟩ := Ab hF
 refine Ak ⟨[E4], [], H33⟩ ?_ ?_
 refine yr 2 ⟨L29 ++ [E21, E22], [B12], H7⟩ ?_
 refine Aj ⟨L29 ++ [E21, E22, (66, vN)], [B12], H33⟩ (yc (some 66) false false (⟨L29 ++ [E21, E22], [B12], H7⟩ : St) (Un H7 c32)) ?_
 exact ye
 exact ⟨H33, hF, (by kernel_rfl)⟩
 refine yF h31 ⟨(L30 p1), [B12], H7⟩ ?_
 refine Ah ?_
 refine ysg ⟨(L30 p1) ++ [(67, vb (r26 == 3))], [B12], H7⟩ ?_ (h := (by generalize p1 = qp0; cases qp0 <;> kernel_rfl))
 refine Ar (α := (Bool)) (fun x => (⟨(L30 p1) ++ [(67, vb x)], [B12], H7⟩ : St)) (fun x => Eh H7 i1 o2 p1 r18 r26 x = some (Hr, ra)) ?_ ?_
 rintro j34 hF
 replace hF : Eh H7 i1 o2 p1 r18 r26 j34 = some (Hr, ra) := hF
 unfold Eh at hF
 refine Ar (α := (Ai)) (fun x => (⟨[E4], [], x⟩ : St)) (fun x => Is i1 o2 x = some (Hr, ra)) ?_ ?_
 rintro H35 hF
 replace hF : Is i1 o2 H35 = some (Hr, ra) := hF
 unfold Is at hF
 exact ⟨H35, hF, (by kernel_rfl)⟩
 rcases Af hF with ⟨h36, hF⟩ | ⟨h36, hF⟩
 refine yT h36 ⟨(L28 p1), [B12], H7⟩ ?_
 obtain ⟨H38, c37, hF⟩ := Ab hF
 refine Ak ⟨[E4], [], H38⟩ ?_ ?_
 refine yr 3 ⟨(L42 p1), [B12], H7⟩ ?_ (h := (by generalize p1 = qp0; cases qp0 <;> kernel_rfl))
 refine Aj ⟨(L42 p1) ++ [(74, vN)], [B12], H38⟩ (yc (some 74) false false (⟨(L42 p1), [B12], H7⟩ : St) (U6 H7 c37) (hr := (by generalize p1 = qp0; cases qp0 <;> kernel_rfl)) (hs := (by generalize p1 = qp0; cases qp0 <;> kernel_rfl))) ?_
 exact ye
 exact ⟨H38, hF, (by kernel_rfl)⟩
 refine yF h36 ⟨L29 ++ [E18], [B12], H7⟩ ?_
 refine Ah ?_
 refine ysg ⟨L29 ++ [E18, (75, vb (r26 == 2))], [B12], H7⟩ ?_
 refine Ar (α := (Bool)) (fun x => (⟨L29 ++ [(75, vb x)], [B12], H7⟩ : St)) (fun x => Iv H7 i1 o2 r18 x = some (Hr, ra)) ?_ ?_
 rintro j39 hF
 replace hF : Iv H7 i1 o2 r18 j39 = some (Hr, ra) := hF
 unfold Iv at hF
 refine Ar (α := (Ai)) (fun x => (⟨[E4], [], x⟩ : St)) (fun x => Iu i1 o2 x = some (Hr, ra)) ?_ ?_
 rintro H40 hF
 replace hF : Iu i1 o2 H40 = some (Hr, ra) := hF
 unfold Iu at hF
 exact ⟨H40, hF, (by kernel_rfl)⟩
 rcases Af hF with ⟨h41, hF⟩ | ⟨h41, hF⟩
 refine yT h41 ⟨L29, [B12], H7⟩ ?_
 obtain ⟨H43, c42, hF⟩ := Ab hF
 refine Ak ⟨[E4], [], H43⟩ ?_ ?_
 refine yr 2 ⟨L29 ++ [E23, E24], [B12], H7⟩ ?_
 refine Aj ⟨L29 ++ [E23, E24, (80, vN)], [B12], H43⟩ (yc (some 80) false false (⟨L29 ++ [E23, E24], [B12], H7⟩ : St) (Wb H7 c42)) ?_
 exact ye
 exact ⟨H43, hF, (by kernel_rfl)⟩
 refine yF h41 ⟨L29, [B12], H7⟩ ?_
 obtain ⟨H45, c44, hF⟩ := Ab hF
 refine Ak ⟨[E4], [], H45⟩ ?_ ?_
 refine yr 2 ⟨L29 ++ [E25, E26], [B12], H7⟩ ?_
 refine Aj ⟨L29 ++ [E25, E26, (61, vN)], [B12], H45⟩ (yc (some 61) false false (⟨L29 ++ [E25, E26], [B12], H7⟩ : St) (Wc H7 c44)) ?_
 exact ye
 exact ⟨H45, hF, (by kernel_rfl)⟩
 rcases Af hF with ⟨h46, hF⟩ | ⟨h46, hF⟩
 refine yT h46 ⟨L29 ++ [(75, vb (r26 == 2))], [B12], H7⟩ ?_
 refine Am ?_
 exact ⟨(r26 == 2), hF, (by kernel_rfl)⟩
 refine yF h46 ⟨L29 ++ [E18], [B12], H7⟩ ?_
 refine yg ⟨L29 ++ [(75, vb (r26 == 4))], [B12], H7⟩ ?_
 exact ⟨(r26 == 4), hF, (by kernel_rfl)⟩
 rcases Af hF with ⟨h47, hF⟩ | ⟨h47, hF⟩
 refine yT h47 ⟨(L30 p1) ++ [(67, vb (r26 == 3))], [B12], H7⟩ ?_
 refine Am ?_
 exact ⟨(r26 == 3), hF, (by kernel_rfl)⟩
 refine yF h47 ⟨(L30 p1), [B12], H7⟩ ?_
 refine ysg ⟨(L30 p1) ++ [(67, vb (r26 == 1))], [B12], H7⟩ ?_ (h := (by generalize p1 = qp0; cases qp0 <;> kernel_rfl))
 refine Ar (α := (Bool)) (fun x => (⟨(L30 p1) ++ [(67, vb x)], [B12], H7⟩ : St)) (fun x => Dc H7 i1 o2 p1 r18 r26 x = some (Hr, ra)) ?_ ?_
 rintro j48 hF
 replace hF : Dc H7 i1 o2 p1 r18 r26 j48 = some (Hr, ra) := hF
 unfold Dc at hF
 exact ⟨j48, hF, (by kernel_rfl)⟩
 rcases Af hF with ⟨h49, hF⟩ | ⟨h49, hF⟩
 refine yT h49 ⟨(L30 p1) ++ [(67, vb (r26 == 1))], [B12], H7⟩ ?_
 refine Am ?_
 exact ⟨(r26 == 1), hF, (by kernel_rfl)⟩
 refine yF h49 ⟨(L30 p1), [B12], H7⟩ ?_
 refine Yv ⟨(L30 p1) ++ [(67, vb (r26 == 7))], [B12], H7⟩ (by generalize p1 = qp0; cases qp0 <;> kernel_rfl) ?_
 exact ⟨(r26 == 7), hF, (by kernel_rfl)⟩
noncomputable def D4 (p2 : Int) (p0 : Ptr) (p1 : Ptr) (a1 : Int) (H2 : Ai) : Option ((Int × Ai) ⊕ ((Ai))) :=
  if (decide (a1 < (if 1073741824 < p2 then 1073741824 else p2))) = true then (Ch (Ev H2 p0 p1) fun H6 r4 =>
  if (r4 != 0) = true then (some (Sum.inr H6))
  else (some (Sum.inl ((IntKind.wrap .i64 (a1 + 1)), H6))))
  else (some (Sum.inr H2))
noncomputable def Lg (H : Ai) (p0 : Ptr) (p1 : Ptr) (p2 : Int) : Option (Ai × Int) :=
  Ag (Gg (fun (x : (Int × Ai)) => D4 p2 p0 p1 x.1 x.2) (0, H)) (fun H10 =>
  (p0).bnd fun i11 o12 =>
  Ag (Ba H10 i11 o12) fun x14 =>
  some (H10, x14.State_))
theorem Y2 (H : Ai) {p0 : Ptr} {p1 : Ptr} {p2 : Int} {ra : Int} {Hr : Ai} (hF : Lg H p0 p1 p2 = some (Hr, ra)) : evS X 63 [.one .top (Ptr.av p0), .one .top (Ptr.av p1), .one .top (.int .i64 p2)] H = some (.one .top (.int .i64 ra), Hr) := by
 let E1 : Ptr → EN := fun z0 => (0, vp z0)
 let L5 : Ptr → Ptr → List EN := fun z0 z1 => [(E1 z0), (1, vp z1), (8, vi (if 1073741824 < p2 then 1073741824 else p2))]
 let S9 : Ptr → Ptr → St := fun z0 z1 => ⟨[(E1 z0), (1, vp z1), (2, vi p2)], [], H⟩
 refine yf Try.func63 false (S9 p0 p1) ?_
 unfold Lg at hF
 refine ysg (S9 p0 p1) ?_ (h := (by generalize p0 = qp0; generalize p1 = qp1; cases qp0 <;> cases qp1 <;> kernel_rfl))
 refine Ah ?_
 refine ysg ⟨(L5 p0 p1) ++ [(9, vi 0)], [], H⟩ ?_ (h := (by generalize p0 = qp0; generalize p1 = qp1; cases qp0 <;> cases qp1 <;> kernel_rfl))
 refine Bs ?_
 obtain ⟨r8, hL9, hF⟩ := Ab hF
 refine Ql (fun (x : (Int × Ai)) => (⟨(L5 p0 p1) ++ [(9, vi x.1)], [], x.2⟩ : St)) (fun (y : (Ai)) => ((.exit 0, (⟨[(E1 p0)], [], y⟩ : St)) : Ex × St)) hL9 (by kernel_rfl) ?_ ?_
 rintro ⟨a1, H2⟩ o hF
 replace hF : D4 p2 p0 p1 a1 H2 = some o := hF
 let L6 : Ptr → Ptr → List EN := fun z0 z1 => (L5 z0 z1) ++ [(9, vi a1)]
 let L7 : Ptr → Ptr → List EN := fun z0 z1 => (L6 z0 z1) ++ [(11, vp z0), (12, vp z1)]
 unfold D4 at hF
 refine ysg ⟨(L6 p0 p1) ++ [(10, vb (decide (a1 < (if 1073741824 < p2 then 1073741824 else p2))))], [], H2⟩ ?_ (h := (by generalize p0 = qp0; generalize p1 = qp1; cases qp0 <;> cases qp1 <;> kernel_rfl))
 refine Ah ?_
 rcases Af hF with ⟨h3, hF⟩ | ⟨h3, hF⟩
 refine yT h3 ⟨(L6 p0 p1), [], H2⟩ ?_
 refine Am ?_
 refine Ah ?_
 refine Bs ?_
 refine Ah ?_
 obtain ⟨H6, r4, c5, hF⟩ := Bg hF
 refine Ak ⟨(L6 p0 p1) ++ [(14, vb (r4 != 0))], [], H6⟩ ?_ ?_
 refine yr 2 ⟨(L7 p0 p1), [], H2⟩ ?_ (h := (by generalize p0 = qp0; generalize p1 = qp1; cases qp0 <;> cases qp1 <;> kernel_rfl))
 refine Aj ⟨(L7 p0 p1) ++ [(13, vi r4)], [], H6⟩ (yc (some 13) false false (⟨(L7 p0 p1), [], H2⟩ : St) (Qx H2 c5) (hr := (by generalize p0 = qp0; generalize p1 = qp1; cases qp0 <;> cases qp1 <;> kernel_rfl)) (hs := (by generalize p0 = qp0; generalize p1 = qp1; cases qp0 <;> cases qp1 <;> kernel_rfl))) ?_
 refine yr 1 ⟨(L7 p0 p1) ++ [(13, vi r4), (14, vb (r4 != 0))], [], H6⟩ ?_ (h := (by generalize p0 = qp0; generalize p1 = qp1; cases qp0 <;> cases qp1 <;> kernel_rfl))
 exact ye
 rcases Af hF with ⟨h7, hF⟩ | ⟨h7, hF⟩
 refine yT h7 ⟨[(E1 p0)], [], H6⟩ ?_
 refine Pg ?_
 refine qM rfl ?_
 cases hF
 exact ⟨_, rfl, (by kernel_rfl)⟩
 refine yF h7 ⟨(L6 p0 p1), [], H6⟩ ?_
 refine Am ?_
 refine Yv ⟨(L5 p0 p1) ++ [(9, vi (IntKind.wrap .i64 (a1 + 1)))], [], H6⟩ (by generalize p0 = qp0; generalize p1 = qp1; cases qp0 <;> cases qp1 <;> kernel_rfl) ?_
 cases hF
 exact ⟨_, rfl, (by kernel_rfl)⟩
 refine yF h3 ⟨[(E1 p0)], [], H2⟩ ?_
 refine Pg ?_
 cases hF
 exact ⟨_, rfl, (by kernel_rfl)⟩
 obtain ⟨H10, hy⟩ : ∃ y, y = r8 := ⟨_, rfl⟩
 subst hy
 refine bQ (i := 0) (s := (⟨[(E1 p0)], [], H10⟩ : St)) (by kernel_rfl) ?_
 refine Qj ?_
 refine Ah ?_
 obtain ⟨i11, o12, h13, hF⟩ := Br hF
 let E2 : EN := (0, vo i11 o12)
 let E3 : EN := (16, vo i11 o12)
 let E4 : EN := (17, vo i11 o12)
 let L8 : List EN := [E2, E3, E4, (18, vo i11 (o12 + 19))]
 obtain ⟨x14, V15, hF⟩ := Ab hF
 replace V15 := A8 V15
 refine Ak ⟨[(6, vi x14.State_)], [], H10⟩ ?_ ?_
 refine yr 1 ⟨[(E1 p0), (16, vp p0)], [], H10⟩ ?_ (h := (by generalize p0 = qp0; cases qp0 <;> kernel_rfl))
 refine Bc (congrArg (fun q => (⟨[(0, vp q), (16, vp q)], [], H10⟩ : St)) h13) ?_
 refine yr 1 ⟨[E2, E3, E4], [], H10⟩ ?_
 refine yr 1 ⟨L8, [], H10⟩ ?_
 refine Aj ⟨L8 ++ [(19, vi x14.State_)], [], H10⟩ (yd (X := X) (⟨L8, [], H10⟩ : St) 3 V15 19 1 false (vi x14.State_) (some 19)) ?_
 refine yr 1 ⟨[E2, (6, vi x14.State_), E3, E4, (18, vo i11 (o12 + 19)), (19, vi x14.State_)], [], H10⟩ ?_
 exact ye
 refine As ?_
 obtain ⟨e0, e1⟩ := Ap hF
 subst e0
 subst e1
 exact yi (vi x14.State_)
noncomputable def Ni (H : Ai) : Option (Ai × Bool) :=
  Vs (Kw H (T_memory_Layout.mk 16 16 16 16 32)) fun H4 r1 r2 =>
  if ((r2 != 0) || r1.isNil) = true then (some (H4, false))
  else (Ch (Dl (T_instr_Instr.mk 2 1 0 0 5)) fun r7 r8 =>
  Ch (Dl (T_instr_Instr.mk 1 0 0 0 0)) fun r10 r11 =>
  Ch (Db H4 r1 0 ([r7, r10] : List Int)) fun H15 r13 =>
  Ch (N8 H15 (T_cpu_Setup.mk 0 0 0 0) ([] : List Int)) fun H18 r16 =>
  Ch (if (!r16.isNil) = true then (Ch (Lg H18 r16 r1 9) fun H22 r20 =>
  if (r20 == 1) = true then ((r16).bnd fun i24 o25 =>
  Ag (Ba H22 i24 o25) fun x27 =>
  if ((x27.R_.g 1) == 5) = true then (if (x27.Steps_ == 2) = true then (some (H22, true)) else (some (H22, false))) else (some (H22, false))) else (some (H22, false))) else (some (H18, false))) fun H32 w31 =>
  some (H32, w31))
theorem Y3 (H : Ai) {ra : Bool} {Hr : Ai} (hF : Ni H = some (Hr, ra)) : evS X 52 [] H = some (.one .top (.bool ra), Hr) := by
 let E2 : EN := (9, .agg (List.replicate 4 (.top, .int .u32 16) ++ [(.top, .int .u32 32)]))
 let E4 : EN := (20, .agg [(.top, .int .i64 2), (.top, .int .i64 1), (.top, .int .i64 0), (.top, .int .i64 0), (.top, .int .i64 5)])
 let E6 : EN := (25, .agg ([(.top, .int .i64 1)] ++ List.replicate 4 (.top, .int .i64 0)))
 let E8 : EN := (34, .agg (List.replicate 4 (.top, .int .u32 0)))
 let L24 : List EN := [(51, vF), (52, vF), (53, vN), (54, vN), (55, vN), (56, vN), (57, vN), (58, vF), (59, vF), (60, vF)]
 let L25 : List EN := [(43, vF), (44, vF), (45, vN), (46, vN), (47, vN), (48, vN), (49, vN), (50, vN)] ++ L24
 refine yf Try.func52 false ⟨[], [], H⟩ ?_
 unfold Ni at hF
 refine ysg ⟨[], [], H⟩ ?_
 refine Ah ?_
 obtain ⟨H4, r1, r2, c3, hF⟩ := Rx hF
 let E1 : Ptr → EN := fun z0 => (1, vp z0)
 let E3 : Ptr → EN := fun z0 => (10, .tup [vp z0, vi r2])
 let E9 : Ptr → EN := fun z0 => (40, vp z0)
 let L18 : Ptr → List EN := fun z0 => [(E1 z0), (2, vi r2), (13, vi r2)]
 let L22 : Ptr → List EN := fun z0 => (L18 z0) ++ [(14, vF), (15, vF), (16, vp z0)]
 let S26 : Ptr → St := fun z0 => ⟨[(E1 z0), E4], [], H4⟩
 refine Ak ⟨[(E1 r1), (2, vi r2)], [], H4⟩ ?_ ?_
 refine yr 1 ⟨[E2], [], H⟩ ?_
 refine Aj ⟨[E2, (E3 r1)], [], H4⟩ (yc (some 10) false false (⟨[E2], [], H⟩ : St) (Sw H c3) (hr := (by generalize r1 = qp0; cases qp0 <;> kernel_rfl)) (hs := (by generalize r1 = qp0; cases qp0 <;> kernel_rfl))) ?_
 refine yr 5 ⟨[(E1 r1), (2, vi r2), (8, .tup [vp r1, vi r2]), E2, (E3 r1), (11, vp r1), (12, vi r2)], [], H4⟩ ?_ (h := (by generalize r1 = qp0; cases qp0 <;> kernel_rfl))
 exact ye
 refine Ah ?_
 refine yso ⟨[(E1 r1), (18, vb ((r2 != 0) || r1.isNil))], [], H4⟩ ?_ ?_
 refine yr 3 ⟨(L18 r1) ++ [(14, vb (r2 != 0)), (15, vb (r2 != 0))], [], H4⟩ ?_ (h := (by generalize r1 = qp0; cases qp0 <;> kernel_rfl))
 rcases Aw (r2 != 0) with h5 | h5
 refine Bc (congrArg (fun q => (⟨(L18 r1) ++ [(14, vb q), (15, vb q)], [], H4⟩ : St)) h5) ?_
 refine yr 3 ⟨(L18 r1) ++ [(14, vT), (15, vT), (16, vN), (17, vN), (18, vT)], [], H4⟩ ?_ (h := (by generalize r1 = qp0; cases qp0 <;> kernel_rfl))
 refine Bw (congrArg (fun q0 => (⟨[(E1 r1), (18, vb q0)], [], H4⟩ : St)) (show true = ((r2 != 0) || r1.isNil) by simp [h5])) ?_
 exact ye
 refine Bc (congrArg (fun q => (⟨(L18 r1) ++ [(14, vb q), (15, vb q)], [], H4⟩ : St)) h5) ?_
 refine yr 1 ⟨(L22 r1), [], H4⟩ ?_ (h := (by generalize r1 = qp0; cases qp0 <;> kernel_rfl))
 refine Aj ⟨(L22 r1) ++ [(17, vb r1.isNil)], [], H4⟩ (Qk (⟨(L22 r1), [], H4⟩ : St) (Ws (P := X.P) (ty := 103) (x := (.tmp 16)) (y := (.const (.pointer none))) (m := .top) (m' := .top) r1 (by generalize r1 = qp0; cases qp0 <;> kernel_rfl) (by generalize r1 = qp0; cases qp0 <;> kernel_rfl)) rfl (some 17) (by generalize r1 = qp0; cases qp0 <;> kernel_rfl) (by generalize r1 = qp0; cases qp0 <;> kernel_rfl)) ?_
 refine yr 1 ⟨(L22 r1) ++ [(17, vb r1.isNil), (18, vb r1.isNil)], [], H4⟩ ?_ (h := (by generalize r1 = qp0; cases qp0 <;> kernel_rfl))
 refine Bw (congrArg (fun q0 => (⟨[(E1 r1), (18, vb q0)], [], H4⟩ : St)) (show r1.isNil = ((r2 != 0) || r1.isNil) by simp [h5])) ?_
 exact ye
 rcases Af hF with ⟨h6, hF⟩ | ⟨h6, hF⟩
 refine yT h6 ⟨[], [], H4⟩ ?_
 refine ysg ⟨[(0, vF)], [], H4⟩ ?_
 refine As ?_
 obtain ⟨e0, e1⟩ := Ap hF
 subst e0
 subst e1
 exact yi (vF)
 refine yF h6 ⟨[(E1 r1)], [], H4⟩ ?_
 refine Am ?_
 refine Ah ?_
 obtain ⟨r7, r8, c9, hF⟩ := Bg hF
 let E5 : EN := (21, .tup [vu r7, vi r8])
 let L16 : Ptr → List EN := fun z0 => [(E1 z0), (3, vu r7)]
 refine Ak ⟨(L16 r1), [], H4⟩ ?_ ?_
 refine yr 1 (S26 r1) ?_ (h := (by generalize r1 = qp0; cases qp0 <;> kernel_rfl))
 refine Aj ⟨[(E1 r1), E4, E5], [], H4⟩ (yc (some 21) true false (S26 r1) (Nz H4 c9) (hr := (by generalize r1 = qp0; cases qp0 <;> kernel_rfl)) (hs := (by generalize r1 = qp0; cases qp0 <;> kernel_rfl))) ?_
 refine yr 5 ⟨(L16 r1) ++ [(4, vi r8), (19, .tup [vu r7, vi r8]), E4, E5, (22, vu r7), (23, vi r8)], [], H4⟩ ?_ (h := (by generalize r1 = qp0; cases qp0 <;> kernel_rfl))
 exact ye
 refine Ah ?_
 obtain ⟨r10, r11, c12, hF⟩ := Bg hF
 let E7 : EN := (26, .tup [vu r10, vi r11])
 let L23 : Ptr → List EN := fun z0 => (L16 z0) ++ [(5, vu r10), (29, vp z0), (30, vu r7), (31, vu r10)]
 refine Ak ⟨(L16 r1) ++ [(5, vu r10)], [], H4⟩ ?_ ?_
 refine yr 1 ⟨(L16 r1) ++ [E6], [], H4⟩ ?_ (h := (by generalize r1 = qp0; cases qp0 <;> kernel_rfl))
 refine Aj ⟨(L16 r1) ++ [E6, E7], [], H4⟩ (yc (some 26) true false (⟨(L16 r1) ++ [E6], [], H4⟩ : St) (Nz H4 c12) (hr := (by generalize r1 = qp0; cases qp0 <;> kernel_rfl)) (hs := (by generalize r1 = qp0; cases qp0 <;> kernel_rfl))) ?_
 refine yr 5 ⟨(L16 r1) ++ [(5, vu r10), (6, vi r11), (24, .tup [vu r10, vi r11]), E6, E7, (27, vu r10), (28, vi r11)], [], H4⟩ ?_ (h := (by generalize r1 = qp0; cases qp0 <;> kernel_rfl))
 exact ye
 refine Ah ?_
 obtain ⟨H15, r13, c14, hF⟩ := Bg hF
 let S27 : Ptr → St := fun z0 => ⟨[(E1 z0), E8], [], H15⟩
 refine Ak ⟨[(E1 r1)], [], H15⟩ ?_ ?_
 refine yr 4 ⟨(L23 r1) ++ [(32, .one (.own 1) (.sl 1 (List.map (eI .u32) ([r7, r10] : List Int))))], [], H4⟩ ?_ (h := (by generalize r1 = qp0; cases qp0 <;> kernel_rfl))
 refine Aj ⟨(L23 r1) ++ [(32, .one .top .junk), (33, vi r13)], [], H15⟩ (yc (some 33) false true (⟨(L23 r1) ++ [(32, .one .top .junk)], [], H4⟩ : St) (Tq H4 c14) (hr := (by generalize r1 = qp0; cases qp0 <;> kernel_rfl)) (hs := (by generalize r1 = qp0; cases qp0 <;> kernel_rfl))) ?_
 exact ye
 refine Ah ?_
 obtain ⟨H18, r16, c17, hF⟩ := Bg hF
 let L14 : Ptr → Ptr → List EN := fun z0 z1 => [(E1 z0), (7, vp z1), (36, vp z1)]
 let L17 : Ptr → Ptr → List EN := fun z0 z1 => (L14 z0 z1) ++ [(37, vT), (38, vT), (39, vp z1)]
 refine Ak ⟨[(E1 r1), (7, vp r16)], [], H18⟩ ?_ ?_
 refine yr 1 (S27 r1) ?_ (h := (by generalize r1 = qp0; cases qp0 <;> kernel_rfl))
 refine Aj ⟨[(E1 r1), E8, (35, vp r16)], [], H18⟩ (yc (some 35) false true (S27 r1) (fY H15 c17) (hr := (by generalize r1 = qp0; generalize r16 = qp1; cases qp0 <;> cases qp1 <;> kernel_rfl)) (hs := (by generalize r1 = qp0; generalize r16 = qp1; cases qp0 <;> cases qp1 <;> kernel_rfl))) ?_
 refine yr 1 ⟨[(E1 r1), (7, vp r16), E8, (35, vp r16)], [], H18⟩ ?_ (h := (by generalize r1 = qp0; generalize r16 = qp1; cases qp0 <;> cases qp1 <;> kernel_rfl))
 exact ye
 refine Ah ?_
 obtain ⟨H32, w31, hB33, hF⟩ := Bg hF
 refine Ak ⟨[(0, vb w31)], [], H32⟩ ?_ ?_
 refine yr 1 ⟨(L14 r1 r16), [], H18⟩ ?_ (h := (by generalize r1 = qp0; generalize r16 = qp1; cases qp0 <;> cases qp1 <;> kernel_rfl))
 refine Aj ⟨(L14 r1 r16) ++ [(37, vb (!r16.isNil))], [], H18⟩ (Qk (⟨(L14 r1 r16), [], H18⟩ : St) (oD (P := X.P) (ty := 102) (x := (.tmp 36)) (y := (.const (.pointer none))) (m := .top) (m' := .top) r16 (by generalize r1 = qp0; generalize r16 = qp1; cases qp0 <;> cases qp1 <;> kernel_rfl) (by generalize r1 = qp0; generalize r16 = qp1; cases qp0 <;> cases qp1 <;> kernel_rfl)) rfl (some 37) (by generalize r1 = qp0; generalize r16 = qp1; cases qp0 <;> cases qp1 <;> kernel_rfl) (by generalize r1 = qp0; generalize r16 = qp1; cases qp0 <;> cases qp1 <;> kernel_rfl)) ?_
 refine yr 1 ⟨(L14 r1 r16) ++ [(37, vb (!r16.isNil)), (38, vb (!r16.isNil))], [], H18⟩ ?_ (h := (by generalize r1 = qp0; generalize r16 = qp1; cases qp0 <;> cases qp1 <;> kernel_rfl))
 rcases Af hB33 with ⟨h19, hB33⟩ | ⟨h19, hB33⟩
 refine Bc (congrArg (fun q => (⟨(L14 r1 r16) ++ [(37, vb q), (38, vb q)], [], H18⟩ : St)) h19) ?_
 refine yr 2 ⟨(L17 r1 r16) ++ [(E9 r1)], [], H18⟩ ?_ (h := (by generalize r1 = qp0; generalize r16 = qp1; cases qp0 <;> cases qp1 <;> kernel_rfl))
 obtain ⟨H22, r20, c21, hB33⟩ := Bg hB33
 let L12 : Ptr → List EN := fun z0 => [(E9 z0), (41, vi r20), (42, vT), (43, vT), (44, vT)]
 let L21 : Ptr → Ptr → List EN := fun z0 z1 => (L17 z0 z1) ++ [(E9 z0), (41, vi r20)]
 refine Aj ⟨(L21 r1 r16), [], H22⟩ (yc (some 41) false false (⟨(L17 r1 r16) ++ [(E9 r1)], [], H18⟩ : St) (Y2 H18 c21) (hr := (by generalize r1 = qp0; generalize r16 = qp1; cases qp0 <;> cases qp1 <;> kernel_rfl)) (hs := (by generalize r1 = qp0; generalize r16 = qp1; cases qp0 <;> cases qp1 <;> kernel_rfl))) ?_
 refine yr 3 ⟨(L21 r1 r16) ++ [(42, vb (r20 == 1)), (43, vb (r20 == 1)), (44, vb (r20 == 1))], [], H22⟩ ?_ (h := (by generalize r1 = qp0; generalize r16 = qp1; cases qp0 <;> cases qp1 <;> kernel_rfl))
 rcases Af hB33 with ⟨h23, hB33⟩ | ⟨h23, hB33⟩
 refine Bc (congrArg (fun q => (⟨(L21 r1 r16) ++ [(42, vb q), (43, vb q), (44, vb q)], [], H22⟩ : St)) h23) ?_
 refine yr 1 ⟨(L17 r1 r16) ++ (L12 r1) ++ [(45, vp r16)], [], H22⟩ ?_ (h := (by generalize r1 = qp0; generalize r16 = qp1; cases qp0 <;> cases qp1 <;> kernel_rfl))
 obtain ⟨i24, o25, h26, hB33⟩ := Br hB33
 let E10 : EN := (47, vo i24 o25)
 let E11 : EN := (48, vo i24 (o25 + 1))
 let L13 : Ptr → List EN := fun z0 => [(E1 z0), (7, vo i24 o25), (36, vo i24 o25), (37, vT), (38, vT), (39, vo i24 o25)] ++ (L12 z0) ++ [(45, vo i24 o25), (46, vo i24 o25)]
 refine Bc (congrArg (fun q => (⟨[(E1 r1), (7, vp q), (36, vp q), (37, vT), (38, vT), (39, vp q)] ++ (L12 r1) ++ [(45, vp q)], [], H22⟩ : St)) h26) ?_
 refine yr 1 ⟨(L13 r1), [], H22⟩ ?_ (h := (by generalize r1 = qp0; cases qp0 <;> kernel_rfl))
 obtain ⟨x27, V28, hB33⟩ := Ab hB33
 replace V28 := A8 V28
 let L15 : Ptr → List EN := fun z0 => (L13 z0) ++ [E10, E11, (49, vu (x27.R_.g 1))]
 let L19 : Ptr → List EN := fun z0 => (L15 z0) ++ [(50, vT), (51, vT), (52, vT), (53, vo i24 o25), (54, vo i24 o25), (55, vo i24 (o25 + 21))]
 let L20 : Ptr → List EN := fun z0 => (L19 z0) ++ [(56, vi x27.Steps_)]
 refine yr 2 ⟨(L13 r1) ++ [E10, E11], [], H22⟩ ?_ (h := (by generalize r1 = qp0; cases qp0 <;> kernel_rfl))
 refine Aj ⟨(L15 r1), [], H22⟩ (aM (X := X) (⟨(L13 r1) ++ [E10, E11], [], H22⟩ : St) 35 V28 1 1 false (vu (x27.R_.g 1)) (some 49) (by generalize r1 = qp0; cases qp0 <;> kernel_rfl) (by generalize r1 = qp0; cases qp0 <;> kernel_rfl) (by generalize r1 = qp0; cases qp0 <;> kernel_rfl) (by generalize r1 = qp0; cases qp0 <;> kernel_rfl) (by generalize r1 = qp0; cases qp0 <;> kernel_rfl) (by generalize r1 = qp0; cases qp0 <;> kernel_rfl)) ?_
 refine yr 3 ⟨(L15 r1) ++ [(50, vb ((x27.R_.g 1) == 5)), (51, vb ((x27.R_.g 1) == 5)), (52, vb ((x27.R_.g 1) == 5))], [], H22⟩ ?_ (h := (by generalize r1 = qp0; cases qp0 <;> kernel_rfl))
 rcases Af hB33 with ⟨h29, hB33⟩ | ⟨h29, hB33⟩
 refine Bc (congrArg (fun q => (⟨(L15 r1) ++ [(50, vb q), (51, vb q), (52, vb q)], [], H22⟩ : St)) h29) ?_
 refine yr 3 ⟨(L19 r1), [], H22⟩ ?_ (h := (by generalize r1 = qp0; cases qp0 <;> kernel_rfl))
 refine Aj ⟨(L20 r1), [], H22⟩ (aM (X := X) (⟨(L19 r1), [], H22⟩ : St) 3 V28 21 1 false (vi x27.Steps_) (some 56) (by generalize r1 = qp0; cases qp0 <;> kernel_rfl) (by generalize r1 = qp0; cases qp0 <;> kernel_rfl) (by generalize r1 = qp0; cases qp0 <;> kernel_rfl) (by generalize r1 = qp0; cases qp0 <;> kernel_rfl) (by generalize r1 = qp0; cases qp0 <;> kernel_rfl) (by generalize r1 = qp0; cases qp0 <;> kernel_rfl)) ?_
 refine yr 3 ⟨(L20 r1) ++ [(57, vb (x27.Steps_ == 2)), (58, vb (x27.Steps_ == 2)), (59, vb (x27.Steps_ == 2))], [], H22⟩ ?_ (h := (by generalize r1 = qp0; cases qp0 <;> kernel_rfl))
 rcases Af hB33 with ⟨h30, hB33⟩ | ⟨h30, hB33⟩
 refine Bc (congrArg (fun q => (⟨(L20 r1) ++ [(57, vb q), (58, vb q), (59, vb q)], [], H22⟩ : St)) h30) ?_
 refine yr 2 ⟨[(0, vT)] ++ (L20 r1) ++ [(57, vT), (58, vT), (59, vT), (60, vT)], [], H22⟩ ?_ (h := (by generalize r1 = qp0; cases qp0 <;> kernel_rfl))
 cases hB33
 exact ye
 refine Bc (congrArg (fun q => (⟨(L20 r1) ++ [(57, vb q), (58, vb q), (59, vb q)], [], H22⟩ : St)) h30) ?_
 refine yr 2 ⟨[(0, vF)] ++ (L20 r1) ++ [(57, vF), (58, vF), (59, vF), (60, vF)], [], H22⟩ ?_ (h := (by generalize r1 = qp0; cases qp0 <;> kernel_rfl))
 cases hB33
 exact ye
 refine Bc (congrArg (fun q => (⟨(L15 r1) ++ [(50, vb q), (51, vb q), (52, vb q)], [], H22⟩ : St)) h29) ?_
 refine yr 9 ⟨[(0, vF)] ++ (L15 r1) ++ [(50, vF)] ++ L24, [], H22⟩ ?_ (h := (by generalize r1 = qp0; cases qp0 <;> kernel_rfl))
 cases hB33
 exact ye
 refine Bc (congrArg (fun q => (⟨(L21 r1 r16) ++ [(42, vb q), (43, vb q), (44, vb q)], [], H22⟩ : St)) h23) ?_
 refine yr 17 ⟨[(0, vF)] ++ (L21 r1 r16) ++ [(42, vF)] ++ L25, [], H22⟩ ?_ (h := (by generalize r1 = qp0; generalize r16 = qp1; cases qp0 <;> cases qp1 <;> kernel_rfl))
 cases hB33
 exact ye
 refine Bc (congrArg (fun q => (⟨(L14 r1 r16) ++ [(37, vb q), (38, vb q)], [], H18⟩ : St)) h19) ?_
 refine yr 23 ⟨[(0, vF)] ++ (L14 r1 r16) ++ [(37, vF), (38, vF), (39, vN), (40, vN), (41, vN), (42, vN)] ++ L25, [], H18⟩ ?_ (h := (by generalize r1 = qp0; generalize r16 = qp1; cases qp0 <;> cases qp1 <;> kernel_rfl))
 cases hB33
 exact ye
 refine As ?_
 obtain ⟨e0, e1⟩ := Ap hF
 subst e0
 subst e1
 exact yi (vb w31)
noncomputable def Kx  (p0 : T_memory_Layout) : Option ((Arr 5 Int)) :=
  some (Ho [p0.Code_, p0.Tables_, p0.Data_, p0.Heap_, p0.Stack_] : Arr 5 Int)
theorem Pi (H : Ai) {p0 : T_memory_Layout} {ra : (Arr 5 Int)} (hF : Kx p0 = some ra) : evS X 93 [.agg (A9 p0)] H = some (.agg (arM .u32 5 ra), H) := by
 refine yf Try.func93 true ⟨[(0, .agg (A9 p0))], [], H⟩ ?_
 unfold Kx at hF
 refine ysg ⟨[(1, vl 1 0), (2, vl 2 0)], [(1, (A9 p0)), (2, (List.replicate 5 (.top, .int .u32 0)))], H⟩ ?_
 refine ysg ⟨[(2, vl 2 0)], [(2, (A9 p0))], H⟩ ?_
 refine As ?_
 obtain e0 := Al hF
 subst e0
 exact yp (.agg (A9 p0))
noncomputable def D5 (p0 : (Arr 5 Int)) (a1 : Int) : Option ((Int) ⊕ (Unit ⊕ Unit)) :=
  if (decide (a1 < 5)) = true then (Ag (ga p0 a1) fun v3 =>
  Ag (if ((Int.tmod v3 4) != 0) = true then (some true) else (Ag (ga p0 a1) fun v6 =>
  if (decide (v6 > 1048576)) = true then (some true) else (if (decide (a1 > 0)) = true then (Ag (ga p0 a1) fun v10 =>
  Ag (ga p0 (IntKind.wrap .i64 (a1 - 1))) fun v12 =>
  some (decide (v10 < v12))) else (some false)))) fun w14 =>
  if w14 = true then (some (Sum.inr (Sum.inr ())))
  else (some (Sum.inl (IntKind.wrap .i64 (a1 + 1)))))
  else (some (Sum.inr (Sum.inl ())))
noncomputable def Lh  (p0 : (Arr 5 Int)) : Option (Bool) :=
  Ag (Gg (fun (x : (Int)) => D5 p0 x) 0) (dO (fun (_ : Unit) =>
  some true) (fun (_ : Unit) =>
  some false))
theorem Y4 (H : Ai) {p0 : (Arr 5 Int)} {ra : Bool} (hF : Lh p0 = some ra) : evS X 92 [.agg (arM .u32 5 p0)] H = some (.one .top (.bool ra), H) := by
 let E1 : EN := (1, vl 1 0)
 let B2 : EB := (1, (arM .u32 5 p0))
 let L16 : List EN := [(23, vN), (24, vN)]
 let L17 : List EN := [(18, vT), (19, vT), (20, vN)]
 let L18 : List EN := L16 ++ [(25, vN), (26, vN)]
 let L21 : List EN := L18 ++ [(27, vN), (28, vN)]
 let L27 : List EN := L21 ++ [(29, vN), (30, vN)]
 let S30 : St := ⟨[], [], H⟩
 let S31 : St := ⟨[(2, vF)], [], H⟩
 refine yf Try.func92 true ⟨[(0, .agg (arM .u32 5 p0))], [], H⟩ ?_
 unfold Lh at hF
 refine ysg ⟨[E1], [B2], H⟩ ?_
 refine Ah ?_
 refine ysg ⟨[E1, (3, vi 0)], [B2], H⟩ ?_
 refine Bs ?_
 obtain ⟨r17, hL18, hF⟩ := Ab hF
 refine Ql (fun (x : (Int)) => (⟨[E1, (3, vi x)], [B2], H⟩ : St)) (Sum.elim (fun (y : Unit) => ((.exit 0, S30) : Ex × St)) (fun (y : Unit) => ((.ret, S31) : Ex × St))) hL18 (by kernel_rfl) ?_ ?_
 rintro a1 o hF
 replace hF : D5 p0 a1 = some o := hF
 let E4 : EN := (15, vl 1 (0 + Int.toNat a1))
 let E7 : EN := (21, vb (decide (a1 > 0)))
 let E8 : EN := (28, vl 1 (0 + Int.toNat (IntKind.wrap .i64 (a1 - 1))))
 let L10 : List EN := [E1, (3, vi a1)]
 let L11 : List EN := L10 ++ [(8, vi a1), (9, vl 1 (0 + Int.toNat a1))]
 unfold D5 at hF
 refine Ah ?_
 refine ysg ⟨L10 ++ [(5, vb (decide (a1 < 5)))], [B2], H⟩ ?_
 rcases Af hF with ⟨h2, hF⟩ | ⟨h2, hF⟩
 refine yT h2 ⟨L10, [B2], H⟩ ?_
 refine Am ?_
 refine Ah ?_
 refine Bs ?_
 refine Ah ?_
 obtain ⟨v3, h4, hF⟩ := Ab hF
 let E3 : EN := (12, vb ((Int.tmod v3 4) != 0))
 let L12 : List EN := L11 ++ [(10, vu v3), (11, vu (Int.tmod v3 4))]
 let L13 : List EN := L12 ++ [(12, vF), (13, vF), (14, vi a1)]
 let L19 : List EN := L12 ++ [(12, vT), (13, vT), (14, vN)]
 let L20 : List EN := L19 ++ [(15, vN), (16, vN), (17, vN)]
 let L24 : List EN := L20 ++ L17 ++ [(21, vN), (22, vN)]
 obtain ⟨w14, hB15, hF⟩ := Ab hF
 refine Bn (.take 0 (.take 1 (.take 2 (.take 3 (.take 4 (.take 5 (.take 6 (.take 7 (.take 8 (.take 9 (.take 10 (.take 11 (.take 12 (.take 13 (.take 14 (.take 15 (.take 16 (.take 17 (.take 18 (.take 19 (.take 20 (.take 21 (.take 22 (.take 23 (.take 24 .done))))))))))))))))))))))))) (by kernel_rfl) (⟨L10 ++ [(32, vb w14)], [B2], H⟩ : St) ?_ ?_
 refine ydt ⟨L10 ++ [(8, vi a1)], [B2], H⟩ ?_
 refine Ao ⟨L11, [B2], H⟩ (Je (X := X) (⟨L10 ++ [(8, vi a1)], [B2], H⟩ : St) 72 35 5 h4 1 0 (some 9) (by kernel_rfl) (by kernel_rfl) (by kernel_rfl) (by kernel_rfl)) ?_
 refine Ao ⟨L11 ++ [(10, vu v3)], [B2], H⟩ (Tp (X := X) (⟨L11, [B2], H⟩ : St) 35 5 h4 1 0 (arM .u32 5 p0) (fun q => .int .u32 q) (some 10) (by kernel_rfl) (by kernel_rfl) (by kernel_rfl) (by kernel_rfl) (by kernel_rfl) (by kernel_rfl)) ?_
 refine ydk 3 ⟨L12 ++ [E3, (13, vb ((Int.tmod v3 4) != 0))], [B2], H⟩ ?_
 rcases Af hB15 with ⟨h5, hB15⟩ | ⟨h5, hB15⟩
 refine Fe (congrArg (fun q => (⟨L12 ++ [(12, vb q), (13, vb q)], [B2], H⟩ : St)) h5) ?_
 refine ydk 19 ⟨L24 ++ L27 ++ [(31, vN), (32, vT)], [B2], H⟩ ?_
 cases hB15
 exact yde
 refine Fe (congrArg (fun q => (⟨L12 ++ [(12, vb q), (13, vb q)], [B2], H⟩ : St)) h5) ?_
 refine ydt ⟨L13, [B2], H⟩ ?_
 obtain ⟨v6, h7, hB15⟩ := Ab hB15
 let E5 : EN := (17, vb (decide (v6 > 1048576)))
 let E6 : EN := (18, vb (decide (v6 > 1048576)))
 let L14 : List EN := L13 ++ [E4, (16, vu v6)]
 let L15 : List EN := L14 ++ [(17, vF), (18, vF), (19, vF), (20, vi a1)]
 let L22 : List EN := L15 ++ [(21, vT), (22, vT), (23, vi a1)]
 let L23 : List EN := L22 ++ [(24, vl 1 (0 + Int.toNat a1))]
 let L25 : List EN := L14 ++ [(17, vT)] ++ L17 ++ [(21, vN), (22, vN)]
 let L26 : List EN := L15 ++ [(21, vF), (22, vF)]
 refine Ao ⟨L13 ++ [E4], [B2], H⟩ (Je (X := X) (⟨L13, [B2], H⟩ : St) 72 35 5 h7 1 0 (some 15) (by kernel_rfl) (by kernel_rfl) (by kernel_rfl) (by kernel_rfl)) ?_
 refine Ao ⟨L14, [B2], H⟩ (Tp (X := X) (⟨L13 ++ [E4], [B2], H⟩ : St) 35 5 h7 1 0 (arM .u32 5 p0) (fun q => .int .u32 q) (some 16) (by kernel_rfl) (by kernel_rfl) (by kernel_rfl) (by kernel_rfl) (by kernel_rfl) (by kernel_rfl)) ?_
 refine ydk 3 ⟨L14 ++ [E5, E6, (19, vb (decide (v6 > 1048576)))], [B2], H⟩ ?_
 rcases Af hB15 with ⟨h8, hB15⟩ | ⟨h8, hB15⟩
 refine Fe (congrArg (fun q => (⟨L14 ++ [(17, vb q), (18, vb q), (19, vb q)], [B2], H⟩ : St)) h8) ?_
 refine ydk 13 ⟨L25 ++ L27 ++ [(31, vN), (32, vT)], [B2], H⟩ ?_
 cases hB15
 exact yde
 refine Fe (congrArg (fun q => (⟨L14 ++ [(17, vb q), (18, vb q), (19, vb q)], [B2], H⟩ : St)) h8) ?_
 refine ydk 3 ⟨L15 ++ [E7, (22, vb (decide (a1 > 0)))], [B2], H⟩ ?_
 rcases Af hB15 with ⟨h9, hB15⟩ | ⟨h9, hB15⟩
 refine Fe (congrArg (fun q => (⟨L15 ++ [(21, vb q), (22, vb q)], [B2], H⟩ : St)) h9) ?_
 refine ydt ⟨L22, [B2], H⟩ ?_
 obtain ⟨v10, h11, hB15⟩ := Ab hB15
 let L28 : List EN := L23 ++ [(25, vu v10), (26, vi a1), (27, vi (IntKind.wrap .i64 (a1 - 1)))]
 refine Ao ⟨L23, [B2], H⟩ (Je (X := X) (⟨L22, [B2], H⟩ : St) 72 35 5 h11 1 0 (some 24) (by kernel_rfl) (by kernel_rfl) (by kernel_rfl) (by kernel_rfl)) ?_
 refine Ao ⟨L23 ++ [(25, vu v10)], [B2], H⟩ (Tp (X := X) (⟨L23, [B2], H⟩ : St) 35 5 h11 1 0 (arM .u32 5 p0) (fun q => .int .u32 q) (some 25) (by kernel_rfl) (by kernel_rfl) (by kernel_rfl) (by kernel_rfl) (by kernel_rfl) (by kernel_rfl)) ?_
 refine ydk 2 ⟨L28, [B2], H⟩ ?_
 obtain ⟨v12, h13, hB15⟩ := Ab hB15
 let E9 : EN := (31, vb (decide (v10 < v12)))
 let L29 : List EN := L28 ++ [E8, (29, vu v12), (30, vb (decide (v10 < v12)))]
 refine Ao ⟨L28 ++ [E8], [B2], H⟩ (Je (X := X) (⟨L28, [B2], H⟩ : St) 72 35 5 h13 1 0 (some 28) (by kernel_rfl) (by kernel_rfl) (by kernel_rfl) (by kernel_rfl)) ?_
 refine Ao ⟨L28 ++ [E8, (29, vu v12)], [B2], H⟩ (Tp (X := X) (⟨L28 ++ [E8], [B2], H⟩ : St) 35 5 h13 1 0 (arM .u32 5 p0) (fun q => .int .u32 q) (some 29) (by kernel_rfl) (by kernel_rfl) (by kernel_rfl) (by kernel_rfl) (by kernel_rfl) (by kernel_rfl)) ?_
 refine ydk 3 ⟨L29 ++ [E9, (32, vb (decide (v10 < v12)))], [B2], H⟩ ?_
 cases hB15
 exact yde
 refine Fe (congrArg (fun q => (⟨L15 ++ [(21, vb q), (22, vb q)], [B2], H⟩ : St)) h9) ?_
 refine ydk 10 ⟨L26 ++ L27 ++ [(31, vF), (32, vF)], [B2], H⟩ ?_
 cases hB15
 exact yde
 rcases Af hF with ⟨h16, hF⟩ | ⟨h16, hF⟩
 refine yT h16 S30 ?_
 refine ysg S31 ?_
 refine As ?_
 cases hF
 exact ⟨_, rfl, (by kernel_rfl)⟩
 refine yF h16 ⟨L10, [B2], H⟩ ?_
 refine Am ?_
 refine yg ⟨[E1, (3, vi (IntKind.wrap .i64 (a1 + 1)))], [B2], H⟩ ?_
 cases hF
 exact ⟨_, rfl, (by kernel_rfl)⟩
 refine yF h2 S30 ?_
 refine Pg ?_
 cases hF
 exact ⟨_, rfl, (by kernel_rfl)⟩
 rcases Rl hF with ⟨r17', rfl, hF⟩ | ⟨r17', rfl, hF⟩
 refine bQ (i := 0) (s := S30) (by kernel_rfl) ?_
 refine Qj ?_
 refine ysg ⟨[(2, vT)], [], H⟩ ?_
 refine As ?_
 obtain e0 := Al hF
 subst e0
 exact yp (vT)
 refine lT (s := S31) (by kernel_rfl) ?_
 obtain e0 := Al hF
 subst e0
 exact yp (vF)
noncomputable def Ms  (p0 : T_law04_Case) : Option (Bool) :=
  Ag (Kx p0.L_) fun r1 =>
  Ag (Lh r1) fun r3 =>
  some (r3 && ((decide (p0.L_.Stack_ ≤ 4096)) && ((decide ((p0.Words_.length : Int) ≤ 1024)) && (decide ((p0.Input_.length : Int) ≤ 100)))))
theorem bW (H : Ai) {p0 : T_law04_Case} {ra : Bool} (hF : Ms p0 = some ra) : evS X 54 [.agg (C9 p0)] H = some (.one .top (.bool ra), H) := by
 let E1 : EN := (1, vl 1 0)
 let B2 : EB := (1, (C9 p0))
 let E3 : EN := (4, .agg [(.top, .int .u32 p0.L_.Code_), (.top, .int .u32 p0.L_.Tables_), (.top, .int .u32 p0.L_.Data_), (.top, .int .u32 p0.L_.Heap_), (.top, .int .u32 p0.L_.Stack_)])
 let E4 : EN := (22, vi (p0.Input_.length : Int))
 let E5 : EN := (16, vi (p0.Words_.length : Int))
 let L8 : List EN := [(6, vT), (7, vT), (8, vl 1 0), (9, vl 1 4), (10, vu p0.L_.Stack_)]
 let L9 : List EN := [(11, vT), (12, vT), (13, vT), (14, vl 1 9), (15, .one (.own 0) (.sl 1 (List.map (eI .u32) p0.Words_)))]
 let L11 : List EN := [(17, vT), (18, vT), (19, vT), (20, vl 1 26), (21, .one (.own 0) (.sl 1 (List.map (eI .i32) p0.Input_)))]
 let L12 : List EN := [(18, vF), (19, vF), (20, vN), (21, vN), (22, vN), (23, vN), (24, vF)]
 let L13 : List EN := [(12, vF), (13, vF), (14, vN), (15, vN), (16, vN), (17, vN)] ++ L12
 let S14 : St := ⟨[E1, (3, vl 1 0), E3], [B2], H⟩
 refine yf Try.func54 true ⟨[(0, .agg (C9 p0))], [], H⟩ ?_
 unfold Ms at hF
 refine ysg ⟨[E1], [B2], H⟩ ?_
 refine Ah ?_
 obtain ⟨r1, c2, hF⟩ := Ab hF
 let L6 : List EN := [(3, vl 1 0), E3, (5, .agg (arM .u32 5 r1))]
 let L7 : List EN := [E1] ++ L6
 let L10 : List EN := L7 ++ L8 ++ L9 ++ [E5]
 obtain ⟨r3, c4, hF⟩ := Ab hF
 refine Ak ⟨[(2, vb (r3 && ((decide (p0.L_.Stack_ ≤ 4096)) && ((decide ((p0.Words_.length : Int) ≤ 1024)) && (decide ((p0.Input_.length : Int) ≤ 100))))))], [], H⟩ ?_ ?_
 refine yr 2 S14 ?_
 refine Aj ⟨L7, [B2], H⟩ (yc (some 5) true false S14 (Pi H c2)) ?_
 refine Aj ⟨L7 ++ [(6, vb r3)], [B2], H⟩ (yc (some 6) true false (⟨L7, [B2], H⟩ : St) (Y4 H c4)) ?_
 refine yr 1 ⟨L7 ++ [(6, vb r3), (7, vb r3)], [B2], H⟩ ?_
 rcases Aw r3 with h5 | h5
 refine Bc (congrArg (fun q => (⟨L7 ++ [(6, vb q), (7, vb q)], [B2], H⟩ : St)) h5) ?_
 refine yr 6 ⟨L7 ++ L8 ++ [(11, vb (decide (p0.L_.Stack_ ≤ 4096))), (12, vb (decide (p0.L_.Stack_ ≤ 4096))), (13, vb (decide (p0.L_.Stack_ ≤ 4096)))], [B2], H⟩ ?_
 rcases Aw (decide (p0.L_.Stack_ ≤ 4096)) with h6 | h6
 refine Bc (congrArg (fun q => (⟨L7 ++ L8 ++ [(11, vb q), (12, vb q), (13, vb q)], [B2], H⟩ : St)) h6) ?_
 refine yr 2 ⟨L7 ++ L8 ++ L9, [B2], H⟩ ?_
 refine Aj ⟨L10, [B2], H⟩ (yl (⟨L7 ++ L8 ++ L9, [B2], H⟩ : St) p0.Words_ (eI .u32) (some 16)) ?_
 refine yr 3 ⟨L10 ++ [(17, vb (decide ((p0.Words_.length : Int) ≤ 1024))), (18, vb (decide ((p0.Words_.length : Int) ≤ 1024))), (19, vb (decide ((p0.Words_.length : Int) ≤ 1024)))], [B2], H⟩ ?_
 rcases Aw (decide ((p0.Words_.length : Int) ≤ 1024)) with h7 | h7
 refine Bc (congrArg (fun q => (⟨L10 ++ [(17, vb q), (18, vb q), (19, vb q)], [B2], H⟩ : St)) h7) ?_
 refine yr 2 ⟨L10 ++ L11, [B2], H⟩ ?_
 refine Aj ⟨L10 ++ L11 ++ [E4], [B2], H⟩ (yl (⟨L10 ++ L11, [B2], H⟩ : St) p0.Input_ (eI .i32) (some 22)) ?_
 refine yr 3 ⟨[E1, (2, vb (decide ((p0.Input_.length : Int) ≤ 100)))] ++ L6 ++ L8 ++ L9 ++ [E5] ++ L11 ++ [E4, (23, vb (decide ((p0.Input_.length : Int) ≤ 100))), (24, vb (decide ((p0.Input_.length : Int) ≤ 100)))], [B2], H⟩ ?_
 refine Bw (congrArg (fun q0 => (⟨[(2, vb q0)], [], H⟩ : St)) (show (decide ((p0.Input_.length : Int) ≤ 100)) = (r3 && ((decide (p0.L_.Stack_ ≤ 4096)) && ((decide ((p0.Words_.length : Int) ≤ 1024)) && (decide ((p0.Input_.length : Int) ≤ 100))))) by simp [h5, h6, h7])) ?_
 exact ye
 refine Bc (congrArg (fun q => (⟨L10 ++ [(17, vb q), (18, vb q), (19, vb q)], [B2], H⟩ : St)) h7) ?_
 refine yr 6 ⟨[E1, (2, vF)] ++ L6 ++ L8 ++ L9 ++ [E5, (17, vF)] ++ L12, [B2], H⟩ ?_
 refine Bw (congrArg (fun q0 => (⟨[(2, vb q0)], [], H⟩ : St)) (show false = (r3 && ((decide (p0.L_.Stack_ ≤ 4096)) && ((decide ((p0.Words_.length : Int) ≤ 1024)) && (decide ((p0.Input_.length : Int) ≤ 100))))) by simp [h5, h6, h7])) ?_
 exact ye
 refine Bc (congrArg (fun q => (⟨L7 ++ L8 ++ [(11, vb q), (12, vb q), (13, vb q)], [B2], H⟩ : St)) h6) ?_
 refine yr 12 ⟨[E1, (2, vF)] ++ L6 ++ L8 ++ [(11, vF)] ++ L13, [B2], H⟩ ?_
 refine Bw (congrArg (fun q0 => (⟨[(2, vb q0)], [], H⟩ : St)) (show false = (r3 && ((decide (p0.L_.Stack_ ≤ 4096)) && ((decide ((p0.Words_.length : Int) ≤ 1024)) && (decide ((p0.Input_.length : Int) ≤ 100))))) by simp [h5, h6])) ?_
 exact ye
 refine Bc (congrArg (fun q => (⟨L7 ++ [(6, vb q), (7, vb q)], [B2], H⟩ : St)) h5) ?_
 refine yr 18 ⟨[E1, (2, vF)] ++ L6 ++ [(6, vF), (7, vF), (8, vN), (9, vN), (10, vN), (11, vN)] ++ L13, [B2], H⟩ ?_
 refine Bw (congrArg (fun q0 => (⟨[(2, vb q0)], [], H⟩ : St)) (show false = (r3 && ((decide (p0.L_.Stack_ ≤ 4096)) && ((decide ((p0.Words_.length : Int) ≤ 1024)) && (decide ((p0.Input_.length : Int) ≤ 100))))) by simp [h5])) ?_
 exact ye
 refine As ?_
 obtain e0 := Al hF
 subst e0
 exact yp (vb (r3 && ((decide (p0.L_.Stack_ ≤ 4096)) && ((decide ((p0.Words_.length : Int) ≤ 1024)) && (decide ((p0.Input_.length : Int) ≤ 100))))))
noncomputable def Od  (p0 : (Arr 5 Int)) : Option (T_ref03_Mem) :=
  Ag (mks 4 (IntKind.wrap .u32 (Int.tdiv (p0.g 4) 4)) (IntKind.wrap .u32 (Int.tdiv (p0.g 4) 4)) 0) fun v1 =>
  some (T_ref03_Mem.mk p0 v1)
theorem bX (H : Ai) {p0 : (Arr 5 Int)} {ra : T_ref03_Mem} (hF : Od p0 = some ra) : evS X 79 [.agg (arM .u32 5 p0)] H = some (.agg (Ad ra), H) := by
 let B1 : EB := (1, (arM .u32 5 p0))
 let B2 : EB := (2, (List.replicate 5 (.top, .int .u32 0) ++ [((.own 1), .sl 1 (List.map (eI .u32) ([] : List Int)))]))
 let L4 : List EN := [(1, vl 1 0), (2, vl 2 0), (3, .agg (arM .u32 5 p0))]
 let L5 : List EN := L4 ++ [(4, vl 1 4), (5, vu (p0.g 4)), (6, vu (IntKind.wrap .u32 (Int.tdiv (p0.g 4) 4)))]
 refine yf Try.func79 true ⟨[(0, .agg (arM .u32 5 p0))], [], H⟩ ?_
 unfold Od at hF
 refine ysg ⟨[(1, vl 1 0), (2, vl 2 0)], [B1, B2], H⟩ ?_
 refine Ah ?_
 obtain ⟨v1, h2, hF⟩ := Ab hF
 let B3 : EB := (2, (arM .u32 5 p0 ++ [((.own 1), .sl 1 (List.map (eI .u32) v1))]))
 refine Bn (.take 0 (.take 1 (.take 2 (.take 3 (.last 4 (.take 5 (.last 6 .done))))))) (by kernel_rfl) (⟨[(2, vl 2 0)], [B3], H⟩ : St) ?_ ?_
 refine ydk 4 ⟨L5, [B1, B2], H⟩ ?_
 refine Bo ⟨L5 ++ [(7, .one (.own 1) (.sl 1 (List.map (eI .u32) v1)))], [B1, B2], H⟩ (iF (X := X) (⟨L5, [B1, B2], H⟩ : St) 4 h2 42 35 1 [(.top, .int .u32 0)] (eI .u32) 0 (.u32) (.u32) (some 7) (by kernel_rfl) (by kernel_rfl) (by kernel_rfl) (by kernel_rfl) (by kernel_rfl) (by kernel_rfl) (by kernel_rfl) (by kernel_rfl) (by kernel_rfl) (by kernel_rfl)) ?_
 refine ydt ⟨L5 ++ [(7, .one .top .junk), (8, .agg (arM .u32 5 p0 ++ [((.own 1), .sl 1 (List.map (eI .u32) v1))]))], [B1, B2], H⟩ ?_
 refine ydl ⟨L5 ++ [(7, .one .top .junk), (8, .agg (arM .u32 5 p0 ++ [(.top, .junk)]))], [B1, B3], H⟩ ?_
 exact yde
 refine As ?_
 obtain e0 := Al hF
 subst e0
 exact yp (.agg (arM .u32 5 p0 ++ [((.own 1), .sl 1 (List.map (eI .u32) v1))]))
theorem bY (H : Ai) {p0 : T_cpu_Setup} {p1 : (List Int)} {ra : Ptr} {Hr : Ai} (hF : N8 H p0 p1 = some (Hr, ra)) : evS X 89 [.agg (Dy p0), .one (.own 0) (.sl 1 (List.map (eI .i32) p1))] H = some (.one .top (Ptr.av ra), Hr) := by
 let E1 : EN := (1, .one (.own 0) (.sl 1 (List.map (eI .i32) p1)))
 let B2 : EB := (2, (Dy p0))
 let E3 : EN := (5, vl 2 0)
 let E4 : EN := (6, vu p0.Entry_)
 let E5 : EN := (9, .one (.own 0) (.sl 1 (List.map (eI .i32) p1)))
 let E6 : EN := (10, .one .top .junk)
 let E7 : EN := (11, .agg (List.replicate 16 (.top, .int .u32 0) ++ [(.top, .int .u32 p0.Entry_), (.top, .int .u32 0), (.top, .int .u32 0)] ++ List.replicate 4 (.top, .int .i64 0) ++ [(.top, .junk), (.top, .int .u32 p0.Entry_), (.top, .int .u32 p0.Vector_), (.top, .int .u32 p0.Guard_), (.top, .int .u32 p0.Limit_), (.top, .junk)]))
 let E8 : EN := (7, .agg (Dy p0))
 let L9 : List EN := [E1, (2, vl 2 0)]
 let L10 : List EN := L9 ++ [E3, E4, E8]
 let L11 : List EN := L10 ++ [(8, .one .top .junk), E5]
 refine yf Try.func89 false ⟨[(0, .agg (Dy p0)), E1], [], H⟩ ?_
 unfold N8 at hF
 refine ysg ⟨L9, [B2], H⟩ ?_
 refine Ah ?_
 obtain ⟨v1, h2, hF⟩ := Ab hF
 obtain ⟨i4, h6, hF⟩ := Ci hF
 obtain ⟨H3, h5, hF⟩ := Ci hF
 refine Bn (.take 0 (.take 1 (.take 2 (.take 4 (.last 3 (.last 5 (.take 6 (.last 7 (.take 8 .done))))))))) (by kernel_rfl) (⟨[(4, vo i4 0)], [], H3⟩ : St) ?_ ?_
 refine ydk 4 ⟨L10 ++ [E5], [B2], H⟩ ?_
 refine ydl ⟨L10 ++ [(8, .one (.own 1) (.sl 1 (List.map (eI .i32) ([] : List Int)))), E5], [B2], H⟩ ?_
 refine Bo ⟨L11 ++ [(10, .one (.own 1) (.sl 1 (List.map (eI .i32) v1)))], [B2], H⟩ (Lq (X := X) (⟨L11, [B2], H⟩ : St) 4 h2 48 48 21 1 0 [(.top, .int .i32 0)] (.own 0) (eI .i32) 0 (some 10) (by kernel_rfl) (by kernel_rfl) (by kernel_rfl) (by kernel_rfl) (by kernel_rfl) (by kernel_rfl) (by kernel_rfl) (by kernel_rfl) (by kernel_rfl) (fun _ => rfl) (by kernel_rfl)) ?_
 refine ydt ⟨L11 ++ [E6, (11, .agg (List.replicate 16 (.top, .int .u32 0) ++ [(.top, .int .u32 p0.Entry_), (.top, .int .u32 0), (.top, .int .u32 0)] ++ List.replicate 4 (.top, .int .i64 0) ++ [((.own 1), .sl 2 (List.map Ae ([] : List T_api_Event))), (.top, .int .u32 p0.Entry_), (.top, .int .u32 p0.Vector_), (.top, .int .u32 p0.Guard_), (.top, .int .u32 p0.Limit_), ((.own 1), .sl 1 (List.map (eI .i32) v1))]))], [B2], H⟩ ?_
 refine ydl ⟨L11 ++ [E6, E7, (12, vo H.length 0)], [B2], (H ++ [(List.replicate 16 (.top, .int .u32 0) ++ [(.top, .int .u32 p0.Entry_), (.top, .int .u32 0), (.top, .int .u32 0)] ++ List.replicate 4 (.top, .int .i64 0) ++ [((.own 1), .sl 2 (List.map Ae ([] : List T_api_Event))), (.top, .int .u32 p0.Entry_), (.top, .int .u32 p0.Vector_), (.top, .int .u32 p0.Guard_), (.top, .int .u32 p0.Limit_), ((.own 1), .sl 1 (List.map (eI .i32) v1))])])⟩ ?_
 refine Fe (fP (fun q u => (⟨L11 ++ [E6, E7, (12, vo q 0)], [B2], u⟩ : St)) h6 h5) ?_
 refine ydt ⟨L9 ++ [(4, vo i4 0), E3, E4, E8, (8, .one .top .junk), E5, E6, E7, (12, vo i4 0)], [B2], H3⟩ ?_
 exact yde
 refine As ?_
 obtain ⟨e0, e1⟩ := Ap hF
 subst e0
 subst e1
 exact yi (vo i4 0)
theorem Rn (H : Ai) {p0 : Ptr} {p1 : Int} {p2 : (List Int)} {ra : Int} {Hr : Ai} (hF : Db H p0 p1 p2 = some (Hr, ra)) : evS X 56 [.one .top (Ptr.av p0), .one .top (.int .u32 p1), .one (.own 0) (.sl 1 (List.map (eI .u32) p2))] H = some (.one .top (.int .i64 ra), Hr) := by
 let E2 : EN := (10, vu p1)
 let E3 : EN := (2, .one (.own 0) (.sl 1 (List.map (eI .u32) p2)))
 let E4 : EN := (19, vi (p2.length : Int))
 let L15 : Ptr → List EN := fun z0 => [(0, vp z0), (1, vu p1), E3]
 refine yf Try.func56 false ⟨(L15 p0), [], H⟩ ?_
 unfold Db at hF
 refine ysg ⟨(L15 p0), [], H⟩ ?_ (h := (by generalize p0 = qp0; cases qp0 <;> kernel_rfl))
 refine Ah ?_
 refine ysg ⟨(L15 p0) ++ [(9, vb ((Int.tmod p1 4) != 0))], [], H⟩ ?_ (h := (by generalize p0 = qp0; cases qp0 <;> kernel_rfl))
 rcases Af hF with ⟨h1, hF⟩ | ⟨h1, hF⟩
 refine yT h1 ⟨[], [], H⟩ ?_
 refine ysg ⟨[(6, vi 30)], [], H⟩ ?_
 refine As ?_
 obtain ⟨e0, e1⟩ := Ap hF
 subst e0
 subst e1
 exact yi (vi 30)
 refine yF h1 ⟨(L15 p0), [], H⟩ ?_
 refine Am ?_
 refine Ah ?_
 refine Ah ?_
 obtain ⟨i2, o3, h4, hF⟩ := Br hF
 let L9 : List EN := [(0, vo i2 o3), (1, vu p1), E3]
 let L10 : List EN := L9 ++ [E2, (11, vo i2 o3), (12, vo i2 o3), (13, vo i2 o3), (14, vo i2 (o3 + 4))]
 let L12 : List EN := L9 ++ [(32, vo i2 o3), (33, vo i2 o3), (34, vo i2 (o3 + 5))]
 obtain ⟨x5, V6, hF⟩ := Ab hF
 replace V6 := A8 V6
 let E5 : EN := (25, vu x5.layout_.Stack_)
 let E6 : EN := (35, .one .top (.at_ (.obj i2 (o3 + 5)) 0 ((List.map (eI .u32) x5.words_).length)))
 let E7 : EN := (38, .one .top (.at_ (.obj i2 (o3 + 5)) (Int.toNat (IntKind.wrap .u32 (Int.tdiv p1 4))) ((List.map (eI .u32) x5.words_).length - Int.toNat (IntKind.wrap .u32 (Int.tdiv p1 4)))))
 let E8 : EN := (40, vi (((min p2.length (x5.words_.length - (Int.toNat (IntKind.wrap .u32 (Int.tdiv p1 4)))) : Nat)) : Int))
 let L11 : List EN := L10 ++ [(15, vu x5.layout_.Stack_)]
 let L13 : List EN := L12 ++ [E6, (36, vu p1), (37, vu (IntKind.wrap .u32 (Int.tdiv p1 4)))]
 let L14 : List EN := L11 ++ [(16, vF), (17, vF), (18, .one (.own 0) (.sl 1 (List.map (eI .u32) p2)))]
 let L16 : List EN := L13 ++ [E7, (39, .one (.own 0) (.sl 1 (List.map (eI .u32) p2)))]
 let L17 : List EN := L14 ++ [E4, (20, .one .top (.int .u64 (IntKind.wrap .u64 (p2.length : Int)))), (21, vo i2 o3), (22, vo i2 o3), (23, vo i2 o3), (24, vo i2 (o3 + 4))]
 refine Ak ⟨L9 ++ [(31, vb ((decide (p1 > x5.layout_.Stack_)) || (decide ((IntKind.wrap .u64 (p2.length : Int)) > (IntKind.wrap .u64 (Int.tdiv (IntKind.wrap .u64 (IntKind.wrap .u32 (x5.layout_.Stack_ - p1))) 4))))))], [], H⟩ ?_ ?_
 refine yr 2 ⟨(L15 p0) ++ [E2, (11, vp p0)], [], H⟩ ?_ (h := (by generalize p0 = qp0; cases qp0 <;> kernel_rfl))
 refine Bc (congrArg (fun q => (⟨[(0, vp q), (1, vu p1), E3, E2, (11, vp q)], [], H⟩ : St)) h4) ?_
 refine yr 1 ⟨L9 ++ [E2, (11, vo i2 o3), (12, vo i2 o3)], [], H⟩ ?_
 refine yr 2 ⟨L10, [], H⟩ ?_
 refine Aj ⟨L11, [], H⟩ (yd (X := X) (⟨L10, [], H⟩ : St) 35 V6 4 1 false (vu x5.layout_.Stack_) (some 15)) ?_
 refine yr 2 ⟨L11 ++ [(16, vb (decide (p1 > x5.layout_.Stack_))), (17, vb (decide (p1 > x5.layout_.Stack_)))], [], H⟩ ?_
 rcases Aw (decide (p1 > x5.layout_.Stack_)) with h7 | h7
 refine Bc (congrArg (fun q => (⟨L11 ++ [(16, vb q), (17, vb q)], [], H⟩ : St)) h7) ?_
 refine yr 14 ⟨L11 ++ [(16, vT), (17, vT), (18, vN), (19, vN), (20, vN), (21, vN), (22, vN), (23, vN), (24, vN), (25, vN), (26, vN), (27, vN), (28, vN), (29, vN), (30, vN), (31, vT)], [], H⟩ ?_
 refine Bw (congrArg (fun q0 => (⟨L9 ++ [(31, vb q0)], [], H⟩ : St)) (show true = ((decide (p1 > x5.layout_.Stack_)) || (decide ((IntKind.wrap .u64 (p2.length : Int)) > (IntKind.wrap .u64 (Int.tdiv (IntKind.wrap .u64 (IntKind.wrap .u32 (x5.layout_.Stack_ - p1))) 4))))) by simp [h7])) ?_
 exact ye
 refine Bc (congrArg (fun q => (⟨L11 ++ [(16, vb q), (17, vb q)], [], H⟩ : St)) h7) ?_
 refine yr 1 ⟨L14, [], H⟩ ?_
 refine Aj ⟨L14 ++ [E4], [], H⟩ (yl (⟨L14, [], H⟩ : St) p2 (eI .u32) (some 19)) ?_
 refine yr 5 ⟨L17, [], H⟩ ?_
 refine Aj ⟨L17 ++ [E5], [], H⟩ (yd (X := X) (⟨L17, [], H⟩ : St) 35 V6 4 1 false (vu x5.layout_.Stack_) (some 25)) ?_
 refine yr 6 ⟨L17 ++ [E5, (26, vu p1), (27, vu (IntKind.wrap .u32 (x5.layout_.Stack_ - p1))), (28, .one .top (.int .u64 (IntKind.wrap .u64 (IntKind.wrap .u32 (x5.layout_.Stack_ - p1))))), (29, .one .top (.int .u64 (IntKind.wrap .u64 (Int.tdiv (IntKind.wrap .u64 (IntKind.wrap .u32 (x5.layout_.Stack_ - p1))) 4)))), (30, vb (decide ((IntKind.wrap .u64 (p2.length : Int)) > (IntKind.wrap .u64 (Int.tdiv (IntKind.wrap .u64 (IntKind.wrap .u32 (x5.layout_.Stack_ - p1))) 4))))), (31, vb (decide ((IntKind.wrap .u64 (p2.length : Int)) > (IntKind.wrap .u64 (Int.tdiv (IntKind.wrap .u64 (IntKind.wrap .u32 (x5.layout_.Stack_ - p1))) 4)))))], [], H⟩ ?_
 refine Bw (congrArg (fun q0 => (⟨L9 ++ [(31, vb q0)], [], H⟩ : St)) (show (decide ((IntKind.wrap .u64 (p2.length : Int)) > (IntKind.wrap .u64 (Int.tdiv (IntKind.wrap .u64 (IntKind.wrap .u32 (x5.layout_.Stack_ - p1))) 4)))) = ((decide (p1 > x5.layout_.Stack_)) || (decide ((IntKind.wrap .u64 (p2.length : Int)) > (IntKind.wrap .u64 (Int.tdiv (IntKind.wrap .u64 (IntKind.wrap .u32 (x5.layout_.Stack_ - p1))) 4))))) by simp [h7])) ?_
 exact ye
 rcases Af hF with ⟨h8, hF⟩ | ⟨h8, hF⟩
 refine yT h8 ⟨[], [], H⟩ ?_
 refine ysg ⟨[(6, vi 31)], [], H⟩ ?_
 refine As ?_
 obtain ⟨e0, e1⟩ := Ap hF
 subst e0
 subst e1
 exact yi (vi 31)
 refine yF h8 ⟨L9, [], H⟩ ?_
 refine Am ?_
 refine Ah ?_
 obtain ⟨v10, h9, hF⟩ := Ab hF
 obtain ⟨v11, h12, hF⟩ := Ci hF
 let W1 : Ai := Dp H i2 o3 [(.top, .int .u32 x5.layout_.Code_), (.top, .int .u32 x5.layout_.Tables_), (.top, .int .u32 x5.layout_.Data_), (.top, .int .u32 x5.layout_.Heap_), (.top, .int .u32 x5.layout_.Stack_), ((.own 1), .sl 1 (List.map (eI .u32) v11))]
 obtain ⟨H13, h14, hF⟩ := Ci hF
 have V15 : Cq H13 i2 o3 6 = some (Dz (T_memory_Mem.mk x5.layout_ v11)) := by rw [← h14]; exact Bt V6 rfl
 refine Ak ⟨[], [], H13⟩ ?_ ?_
 refine yr 3 ⟨L12, [], H⟩ ?_
 refine Aj ⟨L12 ++ [E6], [], H⟩ (fR (X := X) (⟨L12, [], H⟩ : St) 42 V6 5 0 1 (List.map (eI .u32) x5.words_) (some 35) (by kernel_rfl) (by kernel_rfl) (by kernel_rfl) (by kernel_rfl) (by kernel_rfl) (by kernel_rfl)) ?_
 refine yr 2 ⟨L13, [], H⟩ ?_
 refine Aj ⟨L13 ++ [E7], [], H⟩ (iG (X := X) (⟨L13, [], H⟩ : St) 42 35 1 h9 (eI .u32) (.obj i2 (o3 + 5)) 0 (some (.tmp 37)) (some 38) (by kernel_rfl) (by kernel_rfl) (by kernel_rfl) (Yw (k := 5) (c := ((.own 1), .sl 1 (List.map (eI .u32) x5.words_))) V6 (by kernel_rfl) (by kernel_rfl)) (show (opnd X.P (⟨L13, [], H⟩ : St) 0 (.tmp 37)).bind Ty = some (IntKind.wrap .u32 (Int.tdiv p1 4)) by kernel_rfl) (by kernel_rfl)) ?_
 refine yr 1 ⟨L16, [], H⟩ ?_
 refine Aj ⟨L16 ++ [E8], [], W1⟩ (mA (X := X) (lc := []) (h2 := W1) (⟨L16, [], H⟩ : St) 42 35 V6 5 0 1 (eI .u32) (.own 0) x5.words_ p2 (Int.toNat (IntKind.wrap .u32 (Int.tdiv p1 4))) h12 (some 40) (lZ h9) (by kernel_rfl) (by kernel_rfl) (by kernel_rfl) (fun _ => rfl) (fun _ => rfl) (by kernel_rfl) (by kernel_rfl) (Ca V6 (Nat.le_of_ble_eq_true rfl)) (by kernel_rfl)) ?_
 refine Bc (congrArg (fun q => (⟨L16 ++ [E8], [], q⟩ : St)) h14) ?_
 exact ye
 refine ysg ⟨[(6, vi 0)], [], H13⟩ ?_
 refine As ?_
 obtain ⟨e0, e1⟩ := Ap hF
 subst e0
 subst e1
 exact yi (vi 0)
noncomputable def Dg (p2 : (List Int)) (p1 : Int) (a5 : (List Int)) (a6 : Int) : Option (((List Int) × Int) ⊕ (((List Int)))) :=
  if (decide (a6 < (p2.length : Int))) = true then (Ag (gi p2 a6) fun x8 =>
  Ag (gi a5 (IntKind.wrap .i64 (p1 + a6))) fun x10 =>
  Ag (si a5 (IntKind.wrap .i64 (p1 + a6)) x8) fun v12 =>
  some (Sum.inl (v12, (IntKind.wrap .i64 (a6 + 1)))))
  else (some (Sum.inr a5))
noncomputable def Ei  (p0 : T_ref03_Mem) (p1 : Int) (p2 : (List Int)) : Option (T_ref03_Mem) :=
  Ag (mks 4 (p0.W_.length : Int) (p0.W_.length : Int) 0) fun v1 =>
  bnd (cpy v1 0 p0.W_) fun v3 =>
  Ag (Gg (fun (x : ((List Int) × Int)) => Dg p2 p1 x.1 x.2) (v3, 0)) (fun b16 =>
  some (T_ref03_Mem.mk p0.Ends_ b16))
theorem Zo (H : Ai) {p0 : T_ref03_Mem} {p1 : Int} {p2 : (List Int)} {ra : T_ref03_Mem} (hF : Ei p0 p1 p2 = some ra) : evS X 94 [.agg (Ad p0), .one .top (.int .i64 p1), .one (.own 0) (.sl 1 (List.map (eI .u32) p2))] H = some (.agg (Ad ra), H) := by
 let E1 : EN := (2, .one (.own 0) (.sl 1 (List.map (eI .u32) p2)))
 let B2 : EB := (3, (Ad p0))
 let B3 : EB := (6, (List.replicate 5 (.top, .int .u32 0) ++ [((.own 1), .sl 1 (List.map (eI .u32) ([] : List Int)))]))
 let E5 : EN := (11, vi (p0.W_.length : Int))
 let E6 : EN := (10, .one (.own 0) (.sl 1 (List.map (eI .u32) p0.W_)))
 let E9 : EN := (15, .one (.own 0) (.sl 1 (List.map (eI .u32) p0.W_)))
 let E11 : EN := (19, vi (p2.length : Int))
 let L16 : List EN := [(3, vl 3 0), (6, vl 6 0)]
 let L17 : List EN := [(1, vi p1), E1] ++ L16
 let L20 : List EN := L17 ++ [(9, vl 3 5), E6]
 refine yf Try.func94 true ⟨[(0, .agg (Ad p0)), (1, vi p1), E1], [], H⟩ ?_
 unfold Ei at hF
 refine ysg ⟨L17, [B2, B3], H⟩ ?_
 refine Ah ?_
 obtain ⟨v1, h2, hF⟩ := Ab hF
 let E4 : EN := (7, .one (.own 1) (.sl 1 (List.map (eI .u32) v1)))
 let E8 : EN := (13, .one .top (.at_ (.tmp 7) 0 ((List.map (eI .u32) v1).length)))
 refine Ak ⟨L17 ++ [E4], [B2, B3], H⟩ ?_ ?_
 refine yr 2 ⟨L20, [B2, B3], H⟩ ?_
 refine Aj ⟨L20 ++ [E5], [B2, B3], H⟩ (yl (⟨L20, [B2, B3], H⟩ : St) p0.W_ (eI .u32) (some 11)) ?_
 refine Aj ⟨L20 ++ [E5, (12, .one (.own 1) (.sl 1 (List.map (eI .u32) v1)))], [B2, B3], H⟩ (iF (X := X) (⟨L20 ++ [E5], [B2, B3], H⟩ : St) 4 h2 42 35 1 [(.top, .int .u32 0)] (eI .u32) 0 (.i64) (.i64) (some 12) (by kernel_rfl) (by kernel_rfl) (by kernel_rfl) (by kernel_rfl) (by kernel_rfl) (by kernel_rfl) (by kernel_rfl) (by kernel_rfl) (by kernel_rfl) (by kernel_rfl)) ?_
 refine yr 1 ⟨L17 ++ [E4, (9, vl 3 5), E6, E5, (12, .one .top .junk)], [B2, B3], H⟩ ?_
 exact ye
 refine Ah ?_
 obtain ⟨v3, h4, hF⟩ := Ci hF
 let E7 : EN := (7, .one (.own 1) (.sl 1 (List.map (eI .u32) v3)))
 refine Ak ⟨L17 ++ [E7], [B2, B3], H⟩ ?_ ?_
 refine yr 3 ⟨L17 ++ [E4, E8, (14, vl 3 5), E9], [B2, B3], H⟩ ?_
 refine Aj ⟨L17 ++ [E7, E8, (14, vl 3 5), E9, (16, vi (((min p0.W_.length (v1.length - 0) : Nat)) : Int))], [B2, B3], H⟩ (mB (X := X) (⟨L17 ++ [E4, E8, (14, vl 3 5), E9], [B2, B3], H⟩ : St) 42 35 0 1 (eI .u32) 7 (.own 0) v1 p0.W_ 0 h4 (some 16) ⟨true, []⟩ (Nat.zero_le _) (by kernel_rfl) (by kernel_rfl) (by kernel_rfl) (fun _ => rfl) (fun _ => rfl) (by kernel_rfl) (by kernel_rfl)) ?_
 exact ye
 refine Ah ?_
 refine ysg ⟨L17 ++ [E7, (8, vi 0)], [B2, B3], H⟩ ?_
 refine Bs ?_
 obtain ⟨r14, hL15, hF⟩ := Ab hF
 refine Ql (fun (x : ((List Int) × Int)) => (⟨L17 ++ [(7, .one (.own 1) (.sl 1 (List.map (eI .u32) x.1))), (8, vi x.2)], [B2, B3], H⟩ : St)) (fun (y : ((List Int))) => ((.exit 0, (⟨L16 ++ [(7, .one (.own 1) (.sl 1 (List.map (eI .u32) y)))], [B2, B3], H⟩ : St)) : Ex × St)) hL15 (by kernel_rfl) ?_ ?_
 rintro ⟨a5, a6⟩ o hF
 replace hF : Dg p2 p1 a5 a6 = some o := hF
 let E10 : EN := (20, vb (decide (a6 < (p2.length : Int))))
 let E14 : EN := (31, .one .top (.el (.tmp 7) (Int.toNat (IntKind.wrap .i64 (p1 + a6))) 0))
 let E15 : EN := (7, .one (.own 1) (.sl 1 (List.map (eI .u32) a5)))
 let L18 : List EN := L17 ++ [E15, (8, vi a6)]
 let L19 : List EN := [(23, .one .top (.at_ (.tmp 7) 0 ((List.map (eI .u32) a5).length))), (24, vi p1), (25, vi a6), (26, vi (IntKind.wrap .i64 (p1 + a6))), (27, .one (.own 0) (.sl 1 (List.map (eI .u32) p2))), (28, vi a6)]
 let L21 : List EN := L18 ++ [(17, vi a6), (18, .one (.own 0) (.sl 1 (List.map (eI .u32) p2)))]
 unfold Dg at hF
 refine Ah ?_
 refine yso ⟨L18 ++ [E10], [B2, B3], H⟩ ?_ ?_
 refine yr 2 ⟨L21, [B2, B3], H⟩ ?_
 refine Aj ⟨L21 ++ [E11], [B2, B3], H⟩ (yl (⟨L21, [B2, B3], H⟩ : St) p2 (eI .u32) (some 19)) ?_
 refine yr 1 ⟨L21 ++ [E11, E10], [B2, B3], H⟩ ?_
 exact ye
 rcases Af hF with ⟨h7, hF⟩ | ⟨h7, hF⟩
 refine yT h7 ⟨L18, [B2, B3], H⟩ ?_
 refine Am ?_
 refine Ah ?_
 refine Bs ?_
 obtain ⟨x8, h9, hF⟩ := Ab hF
 let E13 : EN := (29, .one .top (.rd (.own 0) (.own 0) [.int .u32 x8] 0))
 let L22 : List EN := L18 ++ L19 ++ [E13, (30, vu x8)]
 obtain ⟨x10, h11, hF⟩ := Ab hF
 obtain ⟨v12, h13, hF⟩ := Ab hF
 let E12 : EN := (7, .one (.own 1) (.sl 1 (List.map (eI .u32) v12)))
 let L23 : List EN := L17 ++ [E12, (8, vi a6)] ++ L19 ++ [E13, (30, vu x8), E14]
 refine Ak ⟨L17 ++ [E12, (8, vi a6)], [B2, B3], H⟩ ?_ ?_
 refine yr 6 ⟨L18 ++ L19, [B2, B3], H⟩ ?_
 refine Aj ⟨L18 ++ L19 ++ [E13], [B2, B3], H⟩ (Qw (X := X) (⟨L18 ++ L19, [B2, B3], H⟩ : St) 42 35 1 h9 (eI .u32) (.own 0) (some 29) (by kernel_rfl) (by kernel_rfl) (by kernel_rfl) (by kernel_rfl)) ?_
 refine yr 1 ⟨L22, [B2, B3], H⟩ ?_
 refine Aj ⟨L22 ++ [E14], [B2, B3], H⟩ (fS (X := X) (⟨L22, [B2, B3], H⟩ : St) 42 35 1 h11 (eI .u32) (.tmp 7) 0 (List.map (eI .u32) a5).length 0 (some 31) (by kernel_rfl) (by kernel_rfl) (by kernel_rfl) (by kernel_rfl) rfl (List.length_map _) (by kernel_rfl)) ?_
 refine Aj ⟨L23, [B2, B3], H⟩ (fW (X := X) (⟨L22 ++ [E14], [B2, B3], H⟩ : St) (⟨L23, [B2, B3], H⟩ : St) ⟨true, []⟩ 35 (.tmp 7) (Int.toNat (IntKind.wrap .i64 (p1 + a6))) 0 1 0 (List.map (eI .u32) a5) [.int .u32 x10] ((eI .u32) x8) (List.map (eI .u32) v12) 1 (vu x8) (by kernel_rfl) (by kernel_rfl) (by kernel_rfl) (by kernel_rfl) (by kernel_rfl) (by kernel_rfl) (mC h11) (by kernel_rfl) (by kernel_rfl) (fV h13) (by kernel_rfl) (by kernel_rfl)) ?_
 exact ye
 refine yg ⟨L17 ++ [E12, (8, vi (IntKind.wrap .i64 (a6 + 1)))], [B2, B3], H⟩ ?_
 cases hF
 exact ⟨_, rfl, (by kernel_rfl)⟩
 refine yF h7 ⟨L16 ++ [E15], [B2, B3], H⟩ ?_
 refine Pg ?_
 cases hF
 exact ⟨_, rfl, (by kernel_rfl)⟩
 obtain ⟨b16, hy⟩ : ∃ y, y = r14 := ⟨_, rfl⟩
 subst hy
 refine bQ (i := 0) (s := (⟨L16 ++ [(7, .one (.own 1) (.sl 1 (List.map (eI .u32) b16)))], [B2, B3], H⟩ : St)) (by kernel_rfl) ?_
 refine Qj ?_
 refine ysg ⟨L16, [(3, (arM .u32 5 p0.Ends_ ++ [((.own 1), .sl 1 (List.map (eI .u32) b16))])), B3], H⟩ ?_
 refine ysg ⟨[(6, vl 6 0)], [(6, (arM .u32 5 p0.Ends_ ++ [((.own 1), .sl 1 (List.map (eI .u32) b16))]))], H⟩ ?_
 refine As ?_
 obtain e0 := Al hF
 subst e0
 exact yp (.agg (arM .u32 5 p0.Ends_ ++ [((.own 1), .sl 1 (List.map (eI .u32) b16))]))
noncomputable def Ov  (p0 : T_ref03_Mem) (p1 : Int) (p2 : (List Int)) : Option (T_ref03_Mem × Int) :=
  if ((Int.tmod p1 4) != 0) = true then (some (p0, 30))
  else (if (decide ((IntKind.wrap .i64 ((IntKind.wrap .i64 (IntKind.wrap .u32 (Int.tdiv p1 4))) + (p2.length : Int))) > (p0.W_.length : Int))) = true then (some (p0, 31))
  else (Ag (Ei p0 (IntKind.wrap .i64 (IntKind.wrap .u32 (Int.tdiv p1 4))) p2) fun r3 =>
  some (r3, 0)))
theorem Zp (H : Ai) {p0 : T_ref03_Mem} {p1 : Int} {p2 : (List Int)} {ra : T_ref03_Mem} {rb : Int} (hF : Ov p0 p1 p2 = some (ra, rb)) : evS X 57 [.agg (Ad p0), .one .top (.int .u32 p1), .one (.own 0) (.sl 1 (List.map (eI .u32) p2))] H = some (.tup [.agg (Ad ra), .one .top (.int .i64 rb)], H) := by
 let E1 : EN := (2, .one (.own 0) (.sl 1 (List.map (eI .u32) p2)))
 let B2 : EB := (3, (Ad p0))
 let B3 : EB := (6, (List.replicate 5 (.top, .int .u32 0) ++ [((.own 1), .sl 1 (List.map (eI .u32) ([] : List Int)))]))
 let E4 : EN := (6, vl 6 0)
 let E5 : EN := (21, vb (decide ((IntKind.wrap .i64 ((IntKind.wrap .i64 (IntKind.wrap .u32 (Int.tdiv p1 4))) + (p2.length : Int))) > (p0.W_.length : Int))))
 let E6 : EN := (16, vi (p2.length : Int))
 let E7 : EN := (20, vi (p0.W_.length : Int))
 let L9 : List EN := [(1, vu p1), E1, (3, vl 3 0), E4]
 let L10 : List EN := L9 ++ [(12, vu p1), (13, vu (IntKind.wrap .u32 (Int.tdiv p1 4))), (14, vi (IntKind.wrap .i64 (IntKind.wrap .u32 (Int.tdiv p1 4)))), (15, .one (.own 0) (.sl 1 (List.map (eI .u32) p2)))]
 let L11 : List EN := L10 ++ [E6, (17, vi (IntKind.wrap .i64 ((IntKind.wrap .i64 (IntKind.wrap .u32 (Int.tdiv p1 4))) + (p2.length : Int)))), (18, vl 3 5), (19, .one (.own 0) (.sl 1 (List.map (eI .u32) p0.W_)))]
 let L12 : List EN := [(23, .agg (Ad p0)), (24, vu p1), (25, vu (IntKind.wrap .u32 (Int.tdiv p1 4))), (26, vi (IntKind.wrap .i64 (IntKind.wrap .u32 (Int.tdiv p1 4)))), (27, .one (.own 0) (.sl 1 (List.map (eI .u32) p2)))]
 let S13 : St := ⟨[(3, vl 3 0), E4], [B2, B3], H⟩
 refine yf Try.func57 true ⟨[(0, .agg (Ad p0)), (1, vu p1), E1], [], H⟩ ?_
 unfold Ov at hF
 refine ysg ⟨L9, [B2, B3], H⟩ ?_
 refine Ah ?_
 refine ysg ⟨L9 ++ [(10, vb ((Int.tmod p1 4) != 0))], [B2, B3], H⟩ ?_
 rcases Af hF with ⟨h1, hF⟩ | ⟨h1, hF⟩
 refine yT h1 S13 ?_
 refine ysg ⟨[E4, (7, vi 30)], [(6, (Ad p0))], H⟩ ?_
 refine As ?_
 obtain ⟨e0, e1⟩ := Ap hF
 subst e0
 subst e1
 exact yp (.tup [.agg (Ad p0), vi 30])
 refine yF h1 ⟨L9, [B2, B3], H⟩ ?_
 refine Am ?_
 refine Ah ?_
 refine yso ⟨L9 ++ [E5], [B2, B3], H⟩ ?_ ?_
 refine yr 4 ⟨L10, [B2, B3], H⟩ ?_
 refine Aj ⟨L10 ++ [E6], [B2, B3], H⟩ (yl (⟨L10, [B2, B3], H⟩ : St) p2 (eI .u32) (some 16)) ?_
 refine yr 3 ⟨L11, [B2, B3], H⟩ ?_
 refine Aj ⟨L11 ++ [E7], [B2, B3], H⟩ (yl (⟨L11, [B2, B3], H⟩ : St) p0.W_ (eI .u32) (some 20)) ?_
 refine yr 1 ⟨L11 ++ [E7, E5], [B2, B3], H⟩ ?_
 exact ye
 rcases Af hF with ⟨h2, hF⟩ | ⟨h2, hF⟩
 refine yT h2 S13 ?_
 refine ysg ⟨[E4, (7, vi 31)], [(6, (Ad p0))], H⟩ ?_
 refine As ?_
 obtain ⟨e0, e1⟩ := Ap hF
 subst e0
 subst e1
 exact yp (.tup [.agg (Ad p0), vi 31])
 refine yF h2 ⟨L9, [B2, B3], H⟩ ?_
 refine Am ?_
 refine Ah ?_
 obtain ⟨r3, c4, hF⟩ := Ab hF
 let E8 : EN := (28, .agg (Ad r3))
 refine Ak ⟨[E4, (7, vi 0)], [(6, (Ad r3))], H⟩ ?_ ?_
 refine yr 5 ⟨L9 ++ L12, [B2, B3], H⟩ ?_
 refine Aj ⟨L9 ++ L12 ++ [E8], [B2, B3], H⟩ (yc (some 28) true false (⟨L9 ++ L12, [B2, B3], H⟩ : St) (Zo H c4)) ?_
 refine yr 2 ⟨L9 ++ [(7, vi 0)] ++ L12 ++ [E8], [B2, (6, (Ad r3))], H⟩ ?_
 exact ye
 refine As ?_
 obtain ⟨e0, e1⟩ := Ap hF
 subst e0
 subst e1
 exact yp (.tup [.agg (Ad r3), vi 0])
end Go.Proofs.Abs
