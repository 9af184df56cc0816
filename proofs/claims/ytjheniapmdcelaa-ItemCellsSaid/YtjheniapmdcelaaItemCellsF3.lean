/- The law ItemCells: whatever the input, it answers true. No conditions. (Part ItemCellsF3 of its proof.) -/
import Derived.Test.YtjheniapmdcelaaItemCellsF2
set_option linter.unusedVariables false
set_option linter.unusedSimpArgs false
set_option linter.unusedSectionVars false
/- Printed by gen (walk.py). -/
namespace Go.Proofs.Abs
open Go Go.Proofs
set_option linter.unusedVariables false
set_option maxRecDepth 100000
set_option maxHeartbeats 0
noncomputable def item_Gen_Address_j1 (H3 : Heap) : Option (Heap × Int) :=
  some (H3, 0)
noncomputable def item_Gen_Address_j2 (H13 : Heap) : Option (Heap × Int) :=
  item_Gen_Address_j1 H13
noncomputable def item_Gen_Address (H : Heap) (p0 : Ptr) (p1 : T_scope_Object) : Option (Heap × Int) :=
  if ((p1.Kind_ == 3) && ((p1.Level_ == 0) || (decide (p1.Module_ > 0)))) = true then ((p0).bnd fun i5 o6 =>
  bind1 (get_item_Gen H i5 o6) fun x8 =>
  bind1 (emit_Code_Fix H x8.Code_ 1 p1.Module_ (IntKind.wrap .i64 p1.N_) 0) fun H11 =>
  item_Gen_Address_j1 H11)
  else (if ((p1.Kind_ == 3) || (p1.Kind_ == 4)) = true then (bind1 (item_Gen_Base H p0 p1.Level_) fun H16 =>
  (p0).bnd fun i17 o18 =>
  bind1 (get_item_Gen H16 i17 o18) fun x20 =>
  bind2 (emit_Code_Sign H16 x20.Code_ 5 0 0 (IntKind.wrap .i64 p1.N_)) fun H24 r22 =>
  item_Gen_Address_j2 H24)
  else (if (p1.Kind_ == 5) = true then (bind1 (item_Gen_Base H p0 p1.Level_) fun H27 =>
  (p0).bnd fun i28 o29 =>
  bind1 (get_item_Gen H27 i28 o29) fun x31 =>
  bind2 (emit_Code_Sign H27 x31.Code_ 18 0 0 (IntKind.wrap .i64 p1.N_)) fun H35 r33 =>
  item_Gen_Address_j2 H35)
  else (some (H, 111))))
theorem ok_item_Gen_Address (H : Heap) {p0 : Ptr} {p1 : T_scope_Object} {ra : Int} {Hr : Heap} (hF : item_Gen_Address H p0 p1 = some (Hr, ra)) : evS X 35 [.one .top (Ptr.av p0), .agg (m0_scope_Object p1)] H = some (.one .top (.int .i64 ra), Hr) := by
  let E1 : Ptr → EN := fun z0 => (0, vp z0)
  let E2 : EN := (3, vl 3 0)
  let B3 : EB := (3, (m0_scope_Object p1))
  let E4 : EN := (6, vl 3 1)
  let E5 : EN := (7, vi p1.Kind_)
  let E6 : EN := (10, vl 3 3)
  let E7 : EN := (11, vi p1.Level_)
  let E12 : EN := (23, vl 3 5)
  let E13 : EN := (24, vi p1.Module_)
  let E14 : EN := (25, vl 3 4)
  let E15 : EN := (26, .one .top (.int .i32 p1.N_))
  let E16 : EN := (27, vi (IntKind.wrap .i64 p1.N_))
  let E17 : EN := (30, vl 3 1)
  let E18 : EN := (31, vi p1.Kind_)
  let E19 : EN := (40, vi p1.Level_)
  let E24 : EN := (46, vl 3 4)
  let E25 : EN := (47, .one .top (.int .i32 p1.N_))
  let E26 : EN := (48, vi (IntKind.wrap .i64 p1.N_))
  let E27 : EN := (56, vi p1.Level_)
  let E32 : EN := (62, vl 3 4)
  let E33 : EN := (63, .one .top (.int .i32 p1.N_))
  let E34 : EN := (64, vi (IntKind.wrap .i64 p1.N_))
  let S35 : Ptr → St := fun z0 => ⟨[(E1 z0), E2], [B3], H⟩
  let S37 : Ptr → St := fun z0 => ⟨[(E1 z0), E2, (38, vp z0), (39, vl 3 3), E19], [B3], H⟩
  let S39 : Ptr → St := fun z0 => ⟨[(E1 z0), E2, (54, vp z0), (55, vl 3 3), E27], [B3], H⟩
  refine yf Try.func35 false ⟨[(E1 p0), (1, .agg (m0_scope_Object p1))], [], H⟩ ?_
  unfold item_Gen_Address at hF
  refine ysg (S35 p0) ?_ (h := (by generalize p0 = qp0; cases qp0 <;> kernel_rfl))
  refine w_seq ?_
  refine w_block ?_
  refine yso ⟨[(E1 p0), E2, (5, vb ((p1.Kind_ == 3) && ((p1.Level_ == 0) || (decide (p1.Module_ > 0)))))], [B3], H⟩ ?_ ?_
  refine yr 4 ⟨[(E1 p0), E2, E4, E5, (8, vb (p1.Kind_ == 3)), (9, vb (p1.Kind_ == 3))], [B3], H⟩ ?_ (h := (by generalize p0 = qp0; cases qp0 <;> kernel_rfl))
  rcases bool_cases (p1.Kind_ == 3) with h1 | h1
  refine o_eq (congrArg (fun q => (⟨[(E1 p0), E2, E4, E5, (8, vb q), (9, vb q)], [B3], H⟩ : St)) h1) ?_
  refine yr 4 ⟨[(E1 p0), E2, E4, E5, (8, vT), (9, vT), E6, E7, (12, vb (p1.Level_ == 0)), (13, vb (p1.Level_ == 0))], [B3], H⟩ ?_ (h := (by generalize p0 = qp0; cases qp0 <;> kernel_rfl))
  rcases bool_cases (p1.Level_ == 0) with h2 | h2
  refine o_eq (congrArg (fun q => (⟨[(E1 p0), E2, E4, E5, (8, vT), (9, vT), E6, E7, (12, vb q), (13, vb q)], [B3], H⟩ : St)) h2) ?_
  refine yr 6 ⟨[(E1 p0), E2, (5, vT), E4, E5, (8, vT), (9, vT), E6, E7, (12, vT), (13, vT), (14, vN), (15, vN), (16, vN), (17, vT), (18, vT)], [B3], H⟩ ?_ (h := (by generalize p0 = qp0; cases qp0 <;> kernel_rfl))
  refine o_eq2 (congrArg (fun q0 => (⟨[(E1 p0), E2, (5, vb q0)], [B3], H⟩ : St)) (show true = ((p1.Kind_ == 3) && ((p1.Level_ == 0) || (decide (p1.Module_ > 0)))) by simp [h1, h2])) ?_
  exact ye
  refine o_eq (congrArg (fun q => (⟨[(E1 p0), E2, E4, E5, (8, vT), (9, vT), E6, E7, (12, vb q), (13, vb q)], [B3], H⟩ : St)) h2) ?_
  refine yr 6 ⟨[(E1 p0), E2, (5, vb (decide (p1.Module_ > 0))), E4, E5, (8, vT), (9, vT), E6, E7, (12, vF), (13, vF), (14, vl 3 5), (15, vi p1.Module_), (16, vb (decide (p1.Module_ > 0))), (17, vb (decide (p1.Module_ > 0))), (18, vb (decide (p1.Module_ > 0)))], [B3], H⟩ ?_ (h := (by generalize p0 = qp0; cases qp0 <;> kernel_rfl))
  refine o_eq2 (congrArg (fun q0 => (⟨[(E1 p0), E2, (5, vb q0)], [B3], H⟩ : St)) (show (decide (p1.Module_ > 0)) = ((p1.Kind_ == 3) && ((p1.Level_ == 0) || (decide (p1.Module_ > 0)))) by simp [h1, h2])) ?_
  exact ye
  refine o_eq (congrArg (fun q => (⟨[(E1 p0), E2, E4, E5, (8, vb q), (9, vb q)], [B3], H⟩ : St)) h1) ?_
  refine yr 10 ⟨[(E1 p0), E2, (5, vF), E4, E5, (8, vF), (9, vF), (10, vN), (11, vN), (12, vN), (13, vN), (14, vN), (15, vN), (16, vN), (17, vN), (18, vF)], [B3], H⟩ ?_ (h := (by generalize p0 = qp0; cases qp0 <;> kernel_rfl))
  refine o_eq2 (congrArg (fun q0 => (⟨[(E1 p0), E2, (5, vb q0)], [B3], H⟩ : St)) (show false = ((p1.Kind_ == 3) && ((p1.Level_ == 0) || (decide (p1.Module_ > 0)))) by simp [h1])) ?_
  exact ye
  refine w_join (α := (Heap)) (fun x => (⟨[], [], x⟩ : St)) (fun x => item_Gen_Address_j1 x = some (Hr, ra)) ?_ ?_
  rintro H3 hF
  replace hF : item_Gen_Address_j1 H3 = some (Hr, ra) := hF
  unfold item_Gen_Address_j1 at hF
  refine ysg ⟨[(4, vi 0)], [], H3⟩ ?_
  refine w_ret ?_
  obtain ⟨e0, e1⟩ := some2_inv hF
  subst e0
  subst e1
  exact yi (vi 0)
  rcases if_inv hF with ⟨h4, hF⟩ | ⟨h4, hF⟩
  refine yT h4 (S35 p0) ?_
  obtain ⟨i5, o6, h7, hF⟩ := pbnd_inv hF
  let E8 : EN := (0, vo i5 o6)
  let E9 : EN := (19, vo i5 o6)
  let E10 : EN := (20, vo i5 o6)
  let E11 : EN := (21, vo i5 o6)
  let S36 : St := ⟨[E8, E2, E9, E10, E11, E12, E13, E14, E15, E16], [B3], H⟩
  obtain ⟨x8, V9, hF⟩ := bind1_inv hF
  replace V9 := hgetT_inv V9
  obtain ⟨H11, c10, hF⟩ := bind1_inv hF
  refine w_regD (.take 0 (.take 1 (.take 2 (.take 4 (.take 5 (.take 6 (.take 7 (.take 8 (.last 3 (.last 9 .done)))))))))) (by kernel_rfl) (⟨[], [], H11⟩ : St) ?_ ?_
  refine d_take ⟨[(E1 p0), E2, (19, vp p0)], [B3], H⟩ (by generalize p0 = qp0; cases qp0 <;> kernel_rfl) ?_
  refine d_eq (congrArg (fun q => (⟨[(0, vp q), E2, (19, vp q)], [B3], H⟩ : St)) h7) ?_
  refine ydt ⟨[E8, E2, E9, E10], [B3], H⟩ ?_
  refine d_take ⟨[E8, E2, E9, E10, E11], [B3], H⟩ (by generalize x8.Code_ = qp0; generalize x8.Proc_.frame_ = qp1; cases qp0 <;> cases qp1 <;> kernel_rfl) ?_
  refine d_take ⟨[E8, E2, E9, E10, E11, E12], [B3], H⟩ (by generalize x8.Code_ = qp0; generalize x8.Proc_.frame_ = qp1; cases qp0 <;> cases qp1 <;> kernel_rfl) ?_
  refine d_take ⟨[E8, E2, E9, E10, E11, E12, E13], [B3], H⟩ (by generalize x8.Code_ = qp0; generalize x8.Proc_.frame_ = qp1; cases qp0 <;> cases qp1 <;> kernel_rfl) ?_
  refine d_take ⟨[E8, E2, E9, E10, E11, E12, E13, E14], [B3], H⟩ (by generalize x8.Code_ = qp0; generalize x8.Proc_.frame_ = qp1; cases qp0 <;> cases qp1 <;> kernel_rfl) ?_
  refine d_take ⟨[E8, E2, E9, E10, E11, E12, E13, E14, E15], [B3], H⟩ (by generalize x8.Code_ = qp0; generalize x8.Proc_.frame_ = qp1; cases qp0 <;> cases qp1 <;> kernel_rfl) ?_
  refine d_take S36 (by generalize x8.Code_ = qp0; generalize x8.Proc_.frame_ = qp1; cases qp0 <;> cases qp1 <;> kernel_rfl) ?_
  refine d_last ⟨[E8, E2, E9, E10, E11, (22, vp x8.Code_), E12, E13, E14, E15, E16], [B3], H⟩ (yd (X := X) S36 26 V9 0 1 false (vp x8.Code_) (some 22) (hs := (by generalize x8.Code_ = qp0; generalize x8.Proc_.frame_ = qp1; cases qp0 <;> cases qp1 <;> kernel_rfl))) ?_
  refine d_last ⟨[E8, E2, E9, E10, E11, (22, vp x8.Code_), E12, E13, E14, E15, E16, (28, vN)], [B3], H11⟩ (st_call (d := (some 28)) (fz := false) (pure := false) (own := false) (⟨[E8, E2, E9, E10, E11, (22, vp x8.Code_), E12, E13, E14, E15, E16], [B3], H⟩ : St) (ok_emit_Code_Fix H c10) (by generalize x8.Code_ = qp0; generalize x8.Proc_.frame_ = qp1; cases qp0 <;> cases qp1 <;> kernel_rfl) (by generalize x8.Code_ = qp0; generalize x8.Proc_.frame_ = qp1; cases qp0 <;> cases qp1 <;> kernel_rfl)) ?_
  exact yde
  exact ⟨H11, hF, (by kernel_rfl)⟩
  refine yF h4 (S35 p0) ?_
  refine yso ⟨[(E1 p0), E2, (29, vb ((p1.Kind_ == 3) || (p1.Kind_ == 4)))], [B3], H⟩ ?_ ?_
  refine yr 4 ⟨[(E1 p0), E2, E17, E18, (32, vb (p1.Kind_ == 3)), (33, vb (p1.Kind_ == 3))], [B3], H⟩ ?_ (h := (by generalize p0 = qp0; cases qp0 <;> kernel_rfl))
  rcases bool_cases (p1.Kind_ == 3) with h12 | h12
  refine o_eq (congrArg (fun q => (⟨[(E1 p0), E2, E17, E18, (32, vb q), (33, vb q)], [B3], H⟩ : St)) h12) ?_
  refine yr 5 ⟨[(E1 p0), E2, (29, vT), E17, E18, (32, vT), (33, vT), (34, vN), (35, vN), (36, vN), (37, vT)], [B3], H⟩ ?_ (h := (by generalize p0 = qp0; cases qp0 <;> kernel_rfl))
  refine o_eq2 (congrArg (fun q0 => (⟨[(E1 p0), E2, (29, vb q0)], [B3], H⟩ : St)) (show true = ((p1.Kind_ == 3) || (p1.Kind_ == 4)) by simp [h12])) ?_
  exact ye
  refine o_eq (congrArg (fun q => (⟨[(E1 p0), E2, E17, E18, (32, vb q), (33, vb q)], [B3], H⟩ : St)) h12) ?_
  refine yr 5 ⟨[(E1 p0), E2, (29, vb (p1.Kind_ == 4)), E17, E18, (32, vF), (33, vF), (34, vl 3 1), (35, vi p1.Kind_), (36, vb (p1.Kind_ == 4)), (37, vb (p1.Kind_ == 4))], [B3], H⟩ ?_ (h := (by generalize p0 = qp0; cases qp0 <;> kernel_rfl))
  refine o_eq2 (congrArg (fun q0 => (⟨[(E1 p0), E2, (29, vb q0)], [B3], H⟩ : St)) (show (p1.Kind_ == 4) = ((p1.Kind_ == 3) || (p1.Kind_ == 4)) by simp [h12])) ?_
  exact ye
  refine w_join (α := (Heap)) (fun x => (⟨[], [], x⟩ : St)) (fun x => item_Gen_Address_j2 x = some (Hr, ra)) ?_ ?_
  rintro H13 hF
  replace hF : item_Gen_Address_j2 H13 = some (Hr, ra) := hF
  unfold item_Gen_Address_j2 at hF
  exact ⟨H13, hF, (by kernel_rfl)⟩
  rcases if_inv hF with ⟨h14, hF⟩ | ⟨h14, hF⟩
  refine yT h14 (S35 p0) ?_
  refine w_seq ?_
  obtain ⟨H16, c15, hF⟩ := bind1_inv hF
  refine w_regO ⟨[(E1 p0), E2], [B3], H16⟩ ?_ ?_
  refine yr 3 (S37 p0) ?_ (h := (by generalize p0 = qp0; cases qp0 <;> kernel_rfl))
  refine o_one ⟨[(E1 p0), E2, (38, vp p0), (39, vl 3 3), E19, (41, vN)], [B3], H16⟩ (st_call (d := (some 41)) (fz := false) (pure := false) (own := false) (S37 p0) (ok_item_Gen_Base H c15) (by generalize p0 = qp0; cases qp0 <;> kernel_rfl) (by generalize p0 = qp0; cases qp0 <;> kernel_rfl)) ?_
  exact ye
  obtain ⟨i17, o18, h19, hF⟩ := pbnd_inv hF
  let E20 : EN := (0, vo i17 o18)
  let E21 : EN := (42, vo i17 o18)
  let E22 : EN := (43, vo i17 o18)
  let E23 : EN := (44, vo i17 o18)
  let S38 : St := ⟨[E20, E2, E21, E22, E23, E24, E25, E26], [B3], H16⟩
  obtain ⟨x20, V21, hF⟩ := bind1_inv hF
  replace V21 := hgetT_inv V21
  obtain ⟨H24, r22, c23, hF⟩ := bind2_inv hF
  refine w_regD (.take 0 (.take 1 (.take 2 (.take 4 (.take 5 (.take 6 (.last 3 (.last 7 .done)))))))) (by kernel_rfl) (⟨[], [], H24⟩ : St) ?_ ?_
  refine d_take ⟨[(E1 p0), E2, (42, vp p0)], [B3], H16⟩ (by generalize p0 = qp0; cases qp0 <;> kernel_rfl) ?_
  refine d_eq (congrArg (fun q => (⟨[(0, vp q), E2, (42, vp q)], [B3], H16⟩ : St)) h19) ?_
  refine ydt ⟨[E20, E2, E21, E22], [B3], H16⟩ ?_
  refine d_take ⟨[E20, E2, E21, E22, E23], [B3], H16⟩ (by generalize x20.Code_ = qp0; generalize x20.Proc_.frame_ = qp1; cases qp0 <;> cases qp1 <;> kernel_rfl) ?_
  refine d_take ⟨[E20, E2, E21, E22, E23, E24], [B3], H16⟩ (by generalize x20.Code_ = qp0; generalize x20.Proc_.frame_ = qp1; cases qp0 <;> cases qp1 <;> kernel_rfl) ?_
  refine d_take ⟨[E20, E2, E21, E22, E23, E24, E25], [B3], H16⟩ (by generalize x20.Code_ = qp0; generalize x20.Proc_.frame_ = qp1; cases qp0 <;> cases qp1 <;> kernel_rfl) ?_
  refine d_take S38 (by generalize x20.Code_ = qp0; generalize x20.Proc_.frame_ = qp1; cases qp0 <;> cases qp1 <;> kernel_rfl) ?_
  refine d_last ⟨[E20, E2, E21, E22, E23, (45, vp x20.Code_), E24, E25, E26], [B3], H16⟩ (yd (X := X) S38 26 V21 0 1 false (vp x20.Code_) (some 45) (hs := (by generalize x20.Code_ = qp0; generalize x20.Proc_.frame_ = qp1; cases qp0 <;> cases qp1 <;> kernel_rfl))) ?_
  refine d_last ⟨[E20, E2, E21, E22, E23, (45, vp x20.Code_), E24, E25, E26, (49, vi r22)], [B3], H24⟩ (st_call (d := (some 49)) (fz := false) (pure := false) (own := false) (⟨[E20, E2, E21, E22, E23, (45, vp x20.Code_), E24, E25, E26], [B3], H16⟩ : St) (ok_emit_Code_Sign H16 c23) (by generalize x20.Code_ = qp0; generalize x20.Proc_.frame_ = qp1; cases qp0 <;> cases qp1 <;> kernel_rfl) (by generalize x20.Code_ = qp0; generalize x20.Proc_.frame_ = qp1; cases qp0 <;> cases qp1 <;> kernel_rfl)) ?_
  exact yde
  exact ⟨H24, hF, (by kernel_rfl)⟩
  refine yF h14 (S35 p0) ?_
  refine ysg ⟨[(E1 p0), E2, (50, vb (p1.Kind_ == 5))], [B3], H⟩ ?_ (h := (by generalize p0 = qp0; cases qp0 <;> kernel_rfl))
  rcases if_inv hF with ⟨h25, hF⟩ | ⟨h25, hF⟩
  refine yT h25 (S35 p0) ?_
  refine w_seq ?_
  obtain ⟨H27, c26, hF⟩ := bind1_inv hF
  refine w_regO ⟨[(E1 p0), E2], [B3], H27⟩ ?_ ?_
  refine yr 3 (S39 p0) ?_ (h := (by generalize p0 = qp0; cases qp0 <;> kernel_rfl))
  refine o_one ⟨[(E1 p0), E2, (54, vp p0), (55, vl 3 3), E27, (57, vN)], [B3], H27⟩ (st_call (d := (some 57)) (fz := false) (pure := false) (own := false) (S39 p0) (ok_item_Gen_Base H c26) (by generalize p0 = qp0; cases qp0 <;> kernel_rfl) (by generalize p0 = qp0; cases qp0 <;> kernel_rfl)) ?_
  exact ye
  obtain ⟨i28, o29, h30, hF⟩ := pbnd_inv hF
  let E28 : EN := (0, vo i28 o29)
  let E29 : EN := (58, vo i28 o29)
  let E30 : EN := (59, vo i28 o29)
  let E31 : EN := (60, vo i28 o29)
  let S40 : St := ⟨[E28, E2, E29, E30, E31, E32, E33, E34], [B3], H27⟩
  obtain ⟨x31, V32, hF⟩ := bind1_inv hF
  replace V32 := hgetT_inv V32
  obtain ⟨H35, r33, c34, hF⟩ := bind2_inv hF
  refine w_regD (.take 0 (.take 1 (.take 2 (.take 4 (.take 5 (.take 6 (.last 3 (.last 7 .done)))))))) (by kernel_rfl) (⟨[], [], H35⟩ : St) ?_ ?_
  refine d_take ⟨[(E1 p0), E2, (58, vp p0)], [B3], H27⟩ (by generalize p0 = qp0; cases qp0 <;> kernel_rfl) ?_
  refine d_eq (congrArg (fun q => (⟨[(0, vp q), E2, (58, vp q)], [B3], H27⟩ : St)) h30) ?_
  refine ydt ⟨[E28, E2, E29, E30], [B3], H27⟩ ?_
  refine d_take ⟨[E28, E2, E29, E30, E31], [B3], H27⟩ (by generalize x31.Code_ = qp0; generalize x31.Proc_.frame_ = qp1; cases qp0 <;> cases qp1 <;> kernel_rfl) ?_
  refine d_take ⟨[E28, E2, E29, E30, E31, E32], [B3], H27⟩ (by generalize x31.Code_ = qp0; generalize x31.Proc_.frame_ = qp1; cases qp0 <;> cases qp1 <;> kernel_rfl) ?_
  refine d_take ⟨[E28, E2, E29, E30, E31, E32, E33], [B3], H27⟩ (by generalize x31.Code_ = qp0; generalize x31.Proc_.frame_ = qp1; cases qp0 <;> cases qp1 <;> kernel_rfl) ?_
  refine d_take S40 (by generalize x31.Code_ = qp0; generalize x31.Proc_.frame_ = qp1; cases qp0 <;> cases qp1 <;> kernel_rfl) ?_
  refine d_last ⟨[E28, E2, E29, E30, E31, (61, vp x31.Code_), E32, E33, E34], [B3], H27⟩ (yd (X := X) S40 26 V32 0 1 false (vp x31.Code_) (some 61) (hs := (by generalize x31.Code_ = qp0; generalize x31.Proc_.frame_ = qp1; cases qp0 <;> cases qp1 <;> kernel_rfl))) ?_
  refine d_last ⟨[E28, E2, E29, E30, E31, (61, vp x31.Code_), E32, E33, E34, (65, vi r33)], [B3], H35⟩ (st_call (d := (some 65)) (fz := false) (pure := false) (own := false) (⟨[E28, E2, E29, E30, E31, (61, vp x31.Code_), E32, E33, E34], [B3], H27⟩ : St) (ok_emit_Code_Sign H27 c34) (by generalize x31.Code_ = qp0; generalize x31.Proc_.frame_ = qp1; cases qp0 <;> cases qp1 <;> kernel_rfl) (by generalize x31.Code_ = qp0; generalize x31.Proc_.frame_ = qp1; cases qp0 <;> cases qp1 <;> kernel_rfl)) ?_
  exact yde
  exact ⟨H35, hF, (by kernel_rfl)⟩
  refine yF h25 ⟨[], [], H⟩ ?_
  refine ysg ⟨[(4, vi 111)], [], H⟩ ?_
  refine w_ret ?_
  obtain ⟨e0, e1⟩ := some2_inv hF
  subst e0
  subst e1
  exact yi (vi 111)
noncomputable def emit_Code_Jump (H : Heap) (p0 : Ptr) (p1 : Int) (p2 : Int) : Option (Heap × Int) :=
  bind2 (emit_Code_Put H p0 (T_instr_Instr.mk p1 p2 0 0 0)) fun H3 r1 =>
  some (H3, r1)
theorem ok_emit_Code_Jump (H : Heap) {p0 : Ptr} {p1 : Int} {p2 : Int} {ra : Int} {Hr : Heap} (hF : emit_Code_Jump H p0 p1 p2 = some (Hr, ra)) : evS X 41 [.one .top (Ptr.av p0), .one .top (.int .i64 p1), .one .top (.int .i64 p2)] H = some (.one .top (.int .i64 ra), Hr) := by
  let E1 : Ptr → EN := fun z0 => (0, vp z0)
  let E2 : EN := (1, vi p1)
  let E3 : EN := (2, vi p2)
  let E4 : EN := (10, .agg [(.top, .int .i64 p1), (.top, .int .i64 p2), (.top, .int .i64 0), (.top, .int .i64 0), (.top, .int .i64 0)])
  let S5 : Ptr → St := fun z0 => ⟨[(E1 z0), E2, E3], [], H⟩
  let S6 : Ptr → St := fun z0 => ⟨[(E1 z0), E2, E3, (7, vp z0), (8, vi p1), (9, vi p2), E4], [], H⟩
  refine yf Try.func41 false (S5 p0) ?_
  unfold emit_Code_Jump at hF
  refine ysg (S5 p0) ?_ (h := (by generalize p0 = qp0; cases qp0 <;> kernel_rfl))
  refine w_seq ?_
  obtain ⟨H3, r1, c2, hF⟩ := bind2_inv hF
  refine w_regO ⟨[(6, vi r1)], [], H3⟩ ?_ ?_
  refine yr 4 (S6 p0) ?_ (h := (by generalize p0 = qp0; cases qp0 <;> kernel_rfl))
  refine o_one ⟨[(E1 p0), E2, E3, (7, vp p0), (8, vi p1), (9, vi p2), E4, (11, vi r1)], [], H3⟩ (st_call (d := (some 11)) (fz := false) (pure := false) (own := false) (S6 p0) (ok_emit_Code_Put H c2) (by generalize p0 = qp0; cases qp0 <;> kernel_rfl) (by generalize p0 = qp0; cases qp0 <;> kernel_rfl)) ?_
  refine yr 1 ⟨[(E1 p0), E2, E3, (6, vi r1), (7, vp p0), (8, vi p1), (9, vi p2), E4, (11, vi r1)], [], H3⟩ ?_ (h := (by generalize p0 = qp0; cases qp0 <;> kernel_rfl))
  exact ye
  refine w_ret ?_
  obtain ⟨e0, e1⟩ := some2_inv hF
  subst e0
  subst e1
  exact yi (vi r1)
noncomputable def word_Sext  (p0 : Int) (p1 : Int) : Option (Int) :=
  if (decide (p1 < 1)) = true then (some 0)
  else (bind1 (shlI .u32 p0 (IntKind.wrap .i64 (32 - (if 32 < p1 then 32 else p1)))) fun v2 =>
  bind1 (shrI .i32 (IntKind.wrap .i32 v2) (IntKind.wrap .i64 (32 - (if 32 < p1 then 32 else p1)))) fun v4 =>
  some v4)
theorem ok_word_Sext (H : Heap) {p0 : Int} {p1 : Int} {ra : Int} (hF : word_Sext p0 p1 = some ra) : evS X 121 [.one .top (.int .u32 p0), .one .top (.int .i64 p1)] H = some (.one .top (.int .i32 ra), H) := by
  let E1 : EN := (0, vu p0)
  let E2 : EN := (5, vi (IntKind.wrap .i64 (32 - (if 32 < p1 then 32 else p1))))
  let E4 : EN := (11, vu p0)
  let E5 : EN := (12, vi (IntKind.wrap .i64 (32 - (if 32 < p1 then 32 else p1))))
  let E8 : EN := (15, vi (IntKind.wrap .i64 (32 - (if 32 < p1 then 32 else p1))))
  let S10 : St := ⟨[E1, (1, vi p1)], [], H⟩
  let S11 : St := ⟨[E1, E2, E4, E5], [], H⟩
  refine yf Try.func121 true S10 ?_
  unfold word_Sext at hF
  refine ysg S10 ?_
  refine w_seq ?_
  refine ysg ⟨[E1, (1, vi p1), (7, vb (decide (p1 < 1)))], [], H⟩ ?_
  rcases if_inv hF with ⟨h1, hF⟩ | ⟨h1, hF⟩
  refine yT h1 ⟨[], [], H⟩ ?_
  refine ysg ⟨[(4, .one .top (.int .i32 0))], [], H⟩ ?_
  refine w_ret ?_
  obtain e0 := some1_inv hF
  subst e0
  exact yp (.one .top (.int .i32 0))
  refine yF h1 S10 ?_
  refine w_skip ?_
  refine ysg ⟨[E1, E2], [], H⟩ ?_
  refine w_seq ?_
  obtain ⟨v2, h3, hF⟩ := bind1_inv hF
  let E6 : EN := (13, vu v2)
  let E7 : EN := (14, .one .top (.int .i32 (IntKind.wrap .i32 v2)))
  let S12 : St := ⟨[E1, E2, E4, E5, E6, E7, E8], [], H⟩
  obtain ⟨v4, h5, hF⟩ := bind1_inv hF
  let E3 : EN := (4, .one .top (.int .i32 v4))
  let E9 : EN := (16, .one .top (.int .i32 v4))
  refine w_regO ⟨[E3], [], H⟩ ?_ ?_
  refine yr 2 S11 ?_
  refine o_one ⟨[E1, E2, E4, E5, E6], [], H⟩ (st_binI S11 .u32 h3 (ev_shl (P := X.P) (ty := 35) (x := (.tmp 11)) (y := (.tmp 12)) (m := .top) (m' := .top) (k := .u32) (k' := .i64) (a := p0) (b := (IntKind.wrap .i64 (32 - (if 32 < p1 then 32 else p1))))) (some 13) (by kernel_rfl) (by kernel_rfl)) ?_
  refine yr 2 S12 ?_
  refine o_one ⟨[E1, E2, E4, E5, E6, E7, E8, E9], [], H⟩ (st_binI S12 .i32 h5 (ev_shr (P := X.P) (ty := 21) (x := (.tmp 14)) (y := (.tmp 15)) (m := .top) (m' := .top) (k := .i32) (k' := .i64) (a := (IntKind.wrap .i32 v2)) (b := (IntKind.wrap .i64 (32 - (if 32 < p1 then 32 else p1))))) (some 16) (by kernel_rfl) (by kernel_rfl)) ?_
  refine yr 1 ⟨[E1, E3, E2, E4, E5, E6, E7, E8, E9], [], H⟩ ?_
  exact ye
  refine w_ret ?_
  obtain e0 := some1_inv hF
  subst e0
  exact yp (.one .top (.int .i32 v4))
noncomputable def instr_Decode_j3 (p0 : Int) (j5 : T_instr_Instr) : Option (T_instr_Instr × Int) :=
  bind2 (instr_Encode j5) fun r6 r7 =>
  if ((r7 != 0) || (r6 != p0)) = true then (some ((T_instr_Instr.mk 0 0 0 0 0), 21))
  else (some (j5, 0))
noncomputable def instr_Decode_j5 (p0 : Int) (j15 : T_instr_Instr) : Option (T_instr_Instr × Int) :=
  instr_Decode_j3 p0 j15
noncomputable def instr_Decode_j6 (p0 : Int) (j17 : T_instr_Instr) : Option (T_instr_Instr × Int) :=
  instr_Decode_j5 p0 j17
noncomputable def instr_Decode_j7 (p0 : Int) (j21 : T_instr_Instr) : Option (T_instr_Instr × Int) :=
  instr_Decode_j6 p0 j21
noncomputable def instr_Decode_j4 (p0 : Int) (j3 : T_instr_Instr) (r1 : Int) (j14 : Bool) : Option (T_instr_Instr × Int) :=
  if j14 = true then (instr_Decode_j5 p0 (T_instr_Instr.mk j3.Op_ j3.A_ j3.B_ j3.C_ (IntKind.wrap .i64 (bitsOf .and .u32 p0 65535))))
  else (if (r1 == 7) = true then (bind1 (word_Sext p0 24) fun r19 =>
  instr_Decode_j6 p0 (T_instr_Instr.mk j3.Op_ j3.A_ j3.B_ j3.C_ (IntKind.wrap .i64 r19)))
  else (if (r1 == 5) = true then (instr_Decode_j7 p0 (T_instr_Instr.mk j3.Op_ j3.A_ j3.B_ (IntKind.wrap .i64 (bitsOf .and .u32 p0 15)) j3.Imm_))
  else (instr_Decode_j7 p0 j3)))
noncomputable def instr_Decode_j8 (p0 : Int) (j3 : T_instr_Instr) (r1 : Int) (j24 : Bool) : Option (T_instr_Instr × Int) :=
  instr_Decode_j4 p0 j3 r1 j24
noncomputable def instr_Decode_j2 (p0 : Int) (j3 : T_instr_Instr) (r1 : Int) (j4 : Bool) : Option (T_instr_Instr × Int) :=
  if j4 = true then (bind1 (word_Sext p0 16) fun r12 =>
  instr_Decode_j3 p0 (T_instr_Instr.mk j3.Op_ j3.A_ j3.B_ j3.C_ (IntKind.wrap .i64 r12)))
  else (if (r1 == 2) = true then (instr_Decode_j4 p0 j3 r1 (r1 == 2))
  else (if (r1 == 4) = true then (instr_Decode_j8 p0 j3 r1 (r1 == 4))
  else (instr_Decode_j8 p0 j3 r1 (r1 == 8))))
noncomputable def instr_Decode_j1 (r1 : Int) (p0 : Int) (j3 : T_instr_Instr) : Option (T_instr_Instr × Int) :=
  if (r1 == 1) = true then (instr_Decode_j2 p0 j3 r1 (r1 == 1))
  else (instr_Decode_j2 p0 j3 r1 (r1 == 3))
noncomputable def instr_Decode  (p0 : Int) : Option (T_instr_Instr × Int) :=
  bind1 (instr_Shape (IntKind.wrap .i64 (Int.fdiv p0 (2 ^ 24)))) fun r1 =>
  if (r1 != 7) = true then (instr_Decode_j1 r1 p0 (T_instr_Instr.mk (IntKind.wrap .i64 (Int.fdiv p0 (2 ^ 24))) (IntKind.wrap .i64 (bitsOf .and .u32 (Int.fdiv p0 (2 ^ 20)) 15)) (IntKind.wrap .i64 (bitsOf .and .u32 (Int.fdiv p0 (2 ^ 16)) 15)) 0 0))
  else (instr_Decode_j1 r1 p0 (T_instr_Instr.mk (IntKind.wrap .i64 (Int.fdiv p0 (2 ^ 24))) 0 0 0 0))
theorem ok_instr_Decode (H : Heap) {p0 : Int} {ra : T_instr_Instr} {rb : Int} (hF : instr_Decode p0 = some (ra, rb)) : evS X 101 [.one .top (.int .u32 p0)] H = some (.tup [.agg [(.top, .int .i64 ra.Op_), (.top, .int .i64 ra.A_), (.top, .int .i64 ra.B_), (.top, .int .i64 ra.C_), (.top, .int .i64 ra.Imm_)], .one .top (.int .i64 rb)], H) := by
  let E1 : EN := (0, vu p0)
  let E2 : EN := (2, vl 2 0)
  let B3 : EB := (2, (List.replicate 5 (.top, .int .i64 0)))
  let E4 : EN := (4, vl 4 0)
  let B5 : EB := (4, ([(.top, .int .i64 (IntKind.wrap .i64 (Int.fdiv p0 (2 ^ 24))))] ++ List.replicate 4 (.top, .int .i64 0)))
  let E7 : EN := (12, vl 4 0)
  let E8 : EN := (13, vi (IntKind.wrap .i64 (Int.fdiv p0 (2 ^ 24))))
  let E17 : EN := (31, vu p0)
  let E20 : EN := (45, vu p0)
  let S23 : St := ⟨[E1, E2, E4, E7, E8], [B3, B5], H⟩
  refine yf Try.func101 true ⟨[E1], [], H⟩ ?_
  unfold instr_Decode at hF
  refine ysg ⟨[E1, E2], [B3], H⟩ ?_
  refine ysg ⟨[E1, E2, E4], [B3, B5], H⟩ ?_
  refine w_seq ?_
  obtain ⟨r1, c2, hF⟩ := bind1_inv hF
  let E6 : EN := (5, vi r1)
  let E9 : EN := (27, vi r1)
  let S22 : St := ⟨[E1, E2, E4, E6], [B3, B5], H⟩
  refine w_regO S22 ?_ ?_
  refine yr 2 S23 ?_
  refine o_one ⟨[E1, E2, E4, E7, E8, (14, vi r1)], [B3, B5], H⟩ (yc (some 14) true false S23 (ok_instr_Shape H c2)) ?_
  refine yr 1 ⟨[E1, E2, E4, E6, E7, E8, (14, vi r1)], [B3, B5], H⟩ ?_
  exact ye
  refine w_seq ?_
  refine ysg ⟨[E1, E2, E4, E6, (16, vb (r1 != 7))], [B3, B5], H⟩ ?_
  refine w_join (α := (T_instr_Instr)) (fun x => (⟨[E1, E2, E4, E6], [B3, (4, (m0_instr_Instr x))], H⟩ : St)) (fun x => instr_Decode_j1 r1 p0 x = some (ra, rb)) ?_ ?_
  rintro j3 hF
  replace hF : instr_Decode_j1 r1 p0 j3 = some (ra, rb) := hF
  let B10 : EB := (4, (m0_instr_Instr j3))
  let S24 : St := ⟨[E1, E2, E4, E9], [B3, B10], H⟩
  let S25 : St := ⟨[E1, E2, E4, E9, (28, vb (r1 == 1))], [B3, B10], H⟩
  let S27 : St := ⟨[E1, E2, E4], [B3, B10], H⟩
  let S28 : St := ⟨[E1, E2, E4, E17], [B3, B10], H⟩
  let S29 : St := ⟨[E1, E2, E4, E9, (35, vb (r1 == 2))], [B3, B10], H⟩
  let S30 : St := ⟨[E1, E2, E4, E20], [B3, B10], H⟩
  let S31 : St := ⟨[E1, E2, E4, E9, (35, vb (r1 == 4))], [B3, B10], H⟩
  unfold instr_Decode_j1 at hF
  refine w_seq ?_
  refine ysg S24 ?_
  refine w_block ?_
  refine w_seq ?_
  refine ysg S25 ?_
  refine w_join (α := (Bool)) (fun x => (⟨[E1, E2, E4, E9, (28, vb x)], [B3, B10], H⟩ : St)) (fun x => instr_Decode_j2 p0 j3 r1 x = some (ra, rb)) ?_ ?_
  rintro j4 hF
  replace hF : instr_Decode_j2 p0 j3 r1 j4 = some (ra, rb) := hF
  unfold instr_Decode_j2 at hF
  refine w_join (α := (T_instr_Instr)) (fun x => (⟨[E1, E2, E4], [B3, (4, (m0_instr_Instr x))], H⟩ : St)) (fun x => instr_Decode_j3 p0 x = some (ra, rb)) ?_ ?_
  rintro j5 hF
  replace hF : instr_Decode_j3 p0 j5 = some (ra, rb) := hF
  let B13 : EB := (4, (m0_instr_Instr j5))
  let E14 : EN := (56, .agg (m0_instr_Instr j5))
  let S26 : St := ⟨[E1, E2, E4, E14], [B3, B13], H⟩
  unfold instr_Decode_j3 at hF
  refine w_seq ?_
  obtain ⟨r6, r7, c8, hF⟩ := bind2_inv hF
  let E11 : EN := (6, vu r6)
  let E12 : EN := (7, vi r7)
  let E15 : EN := (60, vi r7)
  refine w_regO ⟨[E1, E2, E4, E11, E12], [B3, B13], H⟩ ?_ ?_
  refine yr 1 S26 ?_
  refine o_one ⟨[E1, E2, E4, E14, (57, .tup [vu r6, vi r7])], [B3, B13], H⟩ (yc (some 57) true false S26 (ok_instr_Encode H c8)) ?_
  refine yr 5 ⟨[E1, E2, E4, E11, E12, (55, .tup [vu r6, vi r7]), E14, (57, .tup [vu r6, vi r7]), (58, vu r6), (59, vi r7)], [B3, B13], H⟩ ?_
  exact ye
  refine w_seq ?_
  refine yso ⟨[E2, E4, (66, vb ((r7 != 0) || (r6 != p0)))], [B3, B13], H⟩ ?_ ?_
  refine yr 3 ⟨[E1, E2, E4, E11, E12, E15, (61, vb (r7 != 0)), (62, vb (r7 != 0))], [B3, B13], H⟩ ?_
  rcases bool_cases (r7 != 0) with h9 | h9
  refine o_eq (congrArg (fun q => (⟨[E1, E2, E4, E11, E12, E15, (61, vb q), (62, vb q)], [B3, B13], H⟩ : St)) h9) ?_
  refine yr 4 ⟨[E1, E2, E4, E11, E12, E15, (61, vT), (62, vT), (63, vN), (64, vN), (65, vN), (66, vT)], [B3, B13], H⟩ ?_
  refine o_eq2 (congrArg (fun q0 => (⟨[E2, E4, (66, vb q0)], [B3, B13], H⟩ : St)) (show true = ((r7 != 0) || (r6 != p0)) by simp [h9])) ?_
  exact ye
  refine o_eq (congrArg (fun q => (⟨[E1, E2, E4, E11, E12, E15, (61, vb q), (62, vb q)], [B3, B13], H⟩ : St)) h9) ?_
  refine yr 4 ⟨[E1, E2, E4, E11, E12, E15, (61, vF), (62, vF), (63, vu r6), (64, vu p0), (65, vb (r6 != p0)), (66, vb (r6 != p0))], [B3, B13], H⟩ ?_
  refine o_eq2 (congrArg (fun q0 => (⟨[E2, E4, (66, vb q0)], [B3, B13], H⟩ : St)) (show (r6 != p0) = ((r7 != 0) || (r6 != p0)) by simp [h9])) ?_
  exact ye
  rcases if_inv hF with ⟨h10, hF⟩ | ⟨h10, hF⟩
  refine yT h10 ⟨[E2], [B3], H⟩ ?_
  refine ysg ⟨[E2, (3, vi 21)], [B3], H⟩ ?_
  refine w_ret ?_
  obtain ⟨e0, e1⟩ := some2_inv hF
  subst e0
  subst e1
  exact yp (.tup [.agg (List.replicate 5 (.top, .int .i64 0)), vi 21])
  refine yF h10 ⟨[E2, E4], [B3, B13], H⟩ ?_
  refine w_skip ?_
  refine ysg ⟨[E2, (3, vi 0)], [(2, (m0_instr_Instr j5))], H⟩ ?_
  refine w_ret ?_
  obtain ⟨e0, e1⟩ := some2_inv hF
  subst e0
  subst e1
  exact yp (.tup [.agg (m0_instr_Instr j5), vi 0])
  rcases if_inv hF with ⟨h11, hF⟩ | ⟨h11, hF⟩
  refine yT h11 S27 ?_
  obtain ⟨r12, c13, hF⟩ := bind1_inv hF
  let B16 : EB := (4, [(.top, .int .i64 j3.Op_), (.top, .int .i64 j3.A_), (.top, .int .i64 j3.B_), (.top, .int .i64 j3.C_), (.top, .int .i64 (IntKind.wrap .i64 r12))])
  let E18 : EN := (32, .one .top (.int .i32 r12))
  refine w_regO ⟨[E1, E2, E4], [B3, B16], H⟩ ?_ ?_
  refine yr 1 S28 ?_
  refine o_one ⟨[E1, E2, E4, E17, E18], [B3, B10], H⟩ (yc (some 32) true false S28 (ok_word_Sext H c13)) ?_
  refine yr 3 ⟨[E1, E2, E4, E17, E18, (33, vi (IntKind.wrap .i64 r12)), (34, vl 4 4)], [B3, B16], H⟩ ?_
  exact ye
  exact ⟨(T_instr_Instr.mk j3.Op_ j3.A_ j3.B_ j3.C_ (IntKind.wrap .i64 r12)), hF, (by kernel_rfl)⟩
  refine yF h11 S24 ?_
  refine w_seq ?_
  refine ysg S29 ?_
  refine w_join (α := (Bool)) (fun x => (⟨[E1, E2, E4, E9, (35, vb x)], [B3, B10], H⟩ : St)) (fun x => instr_Decode_j4 p0 j3 r1 x = some (ra, rb)) ?_ ?_
  rintro j14 hF
  replace hF : instr_Decode_j4 p0 j3 r1 j14 = some (ra, rb) := hF
  unfold instr_Decode_j4 at hF
  refine w_join (α := (T_instr_Instr)) (fun x => (⟨[E1, E2, E4], [B3, (4, (m0_instr_Instr x))], H⟩ : St)) (fun x => instr_Decode_j5 p0 x = some (ra, rb)) ?_ ?_
  rintro j15 hF
  replace hF : instr_Decode_j5 p0 j15 = some (ra, rb) := hF
  unfold instr_Decode_j5 at hF
  exact ⟨j15, hF, (by kernel_rfl)⟩
  rcases if_inv hF with ⟨h16, hF⟩ | ⟨h16, hF⟩
  refine yT h16 S27 ?_
  refine yg ⟨[E1, E2, E4], [B3, (4, [(.top, .int .i64 j3.Op_), (.top, .int .i64 j3.A_), (.top, .int .i64 j3.B_), (.top, .int .i64 j3.C_), (.top, .int .i64 (IntKind.wrap .i64 (bitsOf .and .u32 p0 65535)))])], H⟩ ?_
  exact ⟨(T_instr_Instr.mk j3.Op_ j3.A_ j3.B_ j3.C_ (IntKind.wrap .i64 (bitsOf .and .u32 p0 65535))), hF, (by kernel_rfl)⟩
  refine yF h16 S24 ?_
  refine ysg ⟨[E1, E2, E4, E9, (43, vb (r1 == 7))], [B3, B10], H⟩ ?_
  refine w_join (α := (T_instr_Instr)) (fun x => (⟨[E1, E2, E4], [B3, (4, (m0_instr_Instr x))], H⟩ : St)) (fun x => instr_Decode_j6 p0 x = some (ra, rb)) ?_ ?_
  rintro j17 hF
  replace hF : instr_Decode_j6 p0 j17 = some (ra, rb) := hF
  unfold instr_Decode_j6 at hF
  exact ⟨j17, hF, (by kernel_rfl)⟩
  rcases if_inv hF with ⟨h18, hF⟩ | ⟨h18, hF⟩
  refine yT h18 S27 ?_
  obtain ⟨r19, c20, hF⟩ := bind1_inv hF
  let B19 : EB := (4, [(.top, .int .i64 j3.Op_), (.top, .int .i64 j3.A_), (.top, .int .i64 j3.B_), (.top, .int .i64 j3.C_), (.top, .int .i64 (IntKind.wrap .i64 r19))])
  let E21 : EN := (46, .one .top (.int .i32 r19))
  refine w_regO ⟨[E1, E2, E4], [B3, B19], H⟩ ?_ ?_
  refine yr 1 S30 ?_
  refine o_one ⟨[E1, E2, E4, E20, E21], [B3, B10], H⟩ (yc (some 46) true false S30 (ok_word_Sext H c20)) ?_
  refine yr 3 ⟨[E1, E2, E4, E20, E21, (47, vi (IntKind.wrap .i64 r19)), (48, vl 4 4)], [B3, B19], H⟩ ?_
  exact ye
  exact ⟨(T_instr_Instr.mk j3.Op_ j3.A_ j3.B_ j3.C_ (IntKind.wrap .i64 r19)), hF, (by kernel_rfl)⟩
  refine yF h18 S24 ?_
  refine ysg ⟨[E1, E2, E4, (49, vb (r1 == 5))], [B3, B10], H⟩ ?_
  refine w_join (α := (T_instr_Instr)) (fun x => (⟨[E1, E2, E4], [B3, (4, (m0_instr_Instr x))], H⟩ : St)) (fun x => instr_Decode_j7 p0 x = some (ra, rb)) ?_ ?_
  rintro j21 hF
  replace hF : instr_Decode_j7 p0 j21 = some (ra, rb) := hF
  unfold instr_Decode_j7 at hF
  exact ⟨j21, hF, (by kernel_rfl)⟩
  rcases if_inv hF with ⟨h22, hF⟩ | ⟨h22, hF⟩
  refine yT h22 S27 ?_
  refine yg ⟨[E1, E2, E4], [B3, (4, [(.top, .int .i64 j3.Op_), (.top, .int .i64 j3.A_), (.top, .int .i64 j3.B_), (.top, .int .i64 (IntKind.wrap .i64 (bitsOf .and .u32 p0 15))), (.top, .int .i64 j3.Imm_)])], H⟩ ?_
  exact ⟨(T_instr_Instr.mk j3.Op_ j3.A_ j3.B_ (IntKind.wrap .i64 (bitsOf .and .u32 p0 15)) j3.Imm_), hF, (by kernel_rfl)⟩
  refine yF h22 S27 ?_
  refine w_skip ?_
  exact ⟨j3, hF, (by kernel_rfl)⟩
  rcases if_inv hF with ⟨h23, hF⟩ | ⟨h23, hF⟩
  refine yT h23 S29 ?_
  refine w_skip ?_
  exact ⟨(r1 == 2), hF, (by kernel_rfl)⟩
  refine yF h23 S24 ?_
  refine ysg S31 ?_
  refine w_join (α := (Bool)) (fun x => (⟨[E1, E2, E4, E9, (35, vb x)], [B3, B10], H⟩ : St)) (fun x => instr_Decode_j8 p0 j3 r1 x = some (ra, rb)) ?_ ?_
  rintro j24 hF
  replace hF : instr_Decode_j8 p0 j3 r1 j24 = some (ra, rb) := hF
  unfold instr_Decode_j8 at hF
  exact ⟨j24, hF, (by kernel_rfl)⟩
  rcases if_inv hF with ⟨h25, hF⟩ | ⟨h25, hF⟩
  refine yT h25 S31 ?_
  refine w_skip ?_
  exact ⟨(r1 == 4), hF, (by kernel_rfl)⟩
  refine yF h25 S24 ?_
  refine yg ⟨[E1, E2, E4, E9, (35, vb (r1 == 8))], [B3, B10], H⟩ ?_
  exact ⟨(r1 == 8), hF, (by kernel_rfl)⟩
  rcases if_inv hF with ⟨h26, hF⟩ | ⟨h26, hF⟩
  refine yT h26 S25 ?_
  refine w_skip ?_
  exact ⟨(r1 == 1), hF, (by kernel_rfl)⟩
  refine yF h26 S24 ?_
  refine yg ⟨[E1, E2, E4, E9, (28, vb (r1 == 3))], [B3, B10], H⟩ ?_
  exact ⟨(r1 == 3), hF, (by kernel_rfl)⟩
  rcases if_inv hF with ⟨h27, hF⟩ | ⟨h27, hF⟩
  refine yT h27 S22 ?_
  refine yg ⟨[E1, E2, E4, E6], [B3, (4, [(.top, .int .i64 (IntKind.wrap .i64 (Int.fdiv p0 (2 ^ 24)))), (.top, .int .i64 (IntKind.wrap .i64 (bitsOf .and .u32 (Int.fdiv p0 (2 ^ 20)) 15))), (.top, .int .i64 (IntKind.wrap .i64 (bitsOf .and .u32 (Int.fdiv p0 (2 ^ 16)) 15))), (.top, .int .i64 0), (.top, .int .i64 0)])], H⟩ ?_
  exact ⟨(T_instr_Instr.mk (IntKind.wrap .i64 (Int.fdiv p0 (2 ^ 24))) (IntKind.wrap .i64 (bitsOf .and .u32 (Int.fdiv p0 (2 ^ 20)) 15)) (IntKind.wrap .i64 (bitsOf .and .u32 (Int.fdiv p0 (2 ^ 16)) 15)) 0 0), hF, (by kernel_rfl)⟩
  refine yF h27 S22 ?_
  refine w_skip ?_
  exact ⟨(T_instr_Instr.mk (IntKind.wrap .i64 (Int.fdiv p0 (2 ^ 24))) 0 0 0 0), hF, (by kernel_rfl)⟩
noncomputable def emit_Code_set (H : Heap) (p0 : Ptr) (p1 : Int) (p2 : Int) : Option (Heap) :=
  bind2 (if (decide (p1 < 0)) = true then (some (p0, true)) else ((p0).bnd fun i2 o3 =>
  bind1 (get_emit_Code H i2 o3) fun x5 =>
  some ((Ptr.at i2 o3), (decide (p1 ≥ (x5.words_.length : Int)))))) fun w7 w8 =>
  if w8 = true then (bind1 (emit_Code_Fail H w7 52) fun H12 =>
  some H12)
  else ((w7).bnd fun i13 o14 =>
  bind1 (get_emit_Code H i13 o14) fun x16 =>
  bind1 (gi x16.words_ p1) fun x18 =>
  bind2 (instr_Decode x18) fun r20 r21 =>
  bind2 (instr_Encode (T_instr_Instr.mk r20.Op_ r20.A_ r20.B_ r20.C_ p2)) fun r23 r24 =>
  if (r24 != 0) = true then (bind1 (emit_Code_Fail H (Ptr.at i13 o14) 52) fun H28 =>
  some H28)
  else (bind1 (gi x16.words_ p1) fun x29 =>
  bind1 (si x16.words_ p1 r23) fun v31 =>
  bnd (set_emit_Code H i13 o14 (T_emit_Code.mk v31 x16.fixups_ x16.marks_ x16.pads_ x16.active_ x16.depth_ x16.most_ x16.err_)) fun H33 =>
  some H33))
theorem ok_emit_Code_set (H : Heap) {p0 : Ptr} {p1 : Int} {p2 : Int} {Hr : Heap} (hF : emit_Code_set H p0 p1 p2 = some Hr) : evS X 86 [.one .top (Ptr.av p0), .one .top (.int .i64 p1), .one .top (.int .i64 p2)] H = some (.tup [], Hr) := by
  let E1 : Ptr → EN := fun z0 => (0, vp z0)
  let E2 : EN := (1, vi p1)
  let E3 : EN := (2, vi p2)
  let E5 : EN := (10, vi p1)
  let E6 : EN := (11, vF)
  let E7 : EN := (12, vF)
  let E8 : EN := (13, vi p1)
  let E16 : EN := (6, vl 6 0)
  let E21 : EN := (28, vi p1)
  let E34 : EN := (49, vi p1)
  refine yf Try.func86 false ⟨[(E1 p0), E2, E3], [], H⟩ ?_
  unfold emit_Code_set at hF
  refine w_seq ?_
  refine w_seq ?_
  obtain ⟨w7, w8, hB9, hF⟩ := bind2_inv hF
  let E4 : Ptr → EN := fun z0 => (0, vp z0)
  let S39 : Ptr → St := fun z0 => ⟨[(E4 z0), (21, vp z0)], [], H⟩
  refine w_regO ⟨[(E4 w7), E2, E3, (20, vb w8)], [], H⟩ ?_ ?_
  refine yr 3 ⟨[(E1 p0), E2, E3, E5, (11, vb (decide (p1 < 0))), (12, vb (decide (p1 < 0)))], [], H⟩ ?_ (h := (by generalize p0 = qp0; cases qp0 <;> kernel_rfl))
  rcases if_inv hB9 with ⟨h1, hB9⟩ | ⟨h1, hB9⟩
  refine o_eq (congrArg (fun q => (⟨[(E1 p0), E2, E3, E5, (11, vb q), (12, vb q)], [], H⟩ : St)) h1) ?_
  refine yr 8 ⟨[(E1 p0), E2, E3, E5, (11, vT), (12, vT), (13, vN), (14, vN), (15, vN), (16, vN), (17, vN), (18, vN), (19, vN), (20, vT)], [], H⟩ ?_ (h := (by generalize p0 = qp0; cases qp0 <;> kernel_rfl))
  cases hB9
  exact ye
  refine o_eq (congrArg (fun q => (⟨[(E1 p0), E2, E3, E5, (11, vb q), (12, vb q)], [], H⟩ : St)) h1) ?_
  refine yr 2 ⟨[(E1 p0), E2, E3, E5, E6, E7, E8, (14, vp p0)], [], H⟩ ?_ (h := (by generalize p0 = qp0; cases qp0 <;> kernel_rfl))
  obtain ⟨i2, o3, h4, hB9⟩ := pbnd_inv hB9
  let E9 : EN := (0, vo i2 o3)
  let E10 : EN := (14, vo i2 o3)
  let E11 : EN := (15, vo i2 o3)
  let E12 : EN := (16, vo i2 o3)
  let S37 : St := ⟨[E9, E2, E3, E5, E6, E7, E8, E10, E11, E12], [], H⟩
  refine o_eq (congrArg (fun q => (⟨[(0, vp q), E2, E3, E5, E6, E7, E8, (14, vp q)], [], H⟩ : St)) h4) ?_
  refine yr 1 ⟨[E9, E2, E3, E5, E6, E7, E8, E10, E11], [], H⟩ ?_
  obtain ⟨x5, V6, hB9⟩ := bind1_inv hB9
  replace V6 := hgetT_inv V6
  let E13 : EN := (17, .one .bh (.sl 1 (List.map (eI .u32) x5.words_)))
  let E14 : EN := (18, vi (x5.words_.length : Int))
  let S38 : St := ⟨[E9, E2, E3, E5, E6, E7, E8, E10, E11, E12, E13], [], H⟩
  refine yr 1 S37 ?_
  refine o_one S38 (yd (X := X) S37 42 V6 0 1 false (.one .bh (.sl 1 (List.map (eI .u32) x5.words_))) (some 17)) ?_
  refine o_one ⟨[E9, E2, E3, E5, E6, E7, E8, E10, E11, E12, E13, E14], [], H⟩ (yl S38 x5.words_ (eI .u32) (some 18)) ?_
  refine yr 2 ⟨[E9, E2, E3, E5, E6, E7, E8, E10, E11, E12, E13, E14, (19, vb (decide (p1 ≥ (x5.words_.length : Int)))), (20, vb (decide (p1 ≥ (x5.words_.length : Int))))], [], H⟩ ?_
  cases hB9
  exact ye
  rcases if_inv hF with ⟨h10, hF⟩ | ⟨h10, hF⟩
  refine yT h10 ⟨[(E4 w7)], [], H⟩ ?_
  refine w_seq ?_
  obtain ⟨H12, c11, hF⟩ := bind1_inv hF
  refine w_regO ⟨[], [], H12⟩ ?_ ?_
  refine yr 1 (S39 w7) ?_ (h := (by generalize w7 = qp0; cases qp0 <;> kernel_rfl))
  refine o_one ⟨[(E4 w7), (21, vp w7), (22, vN)], [], H12⟩ (st_call (d := (some 22)) (fz := false) (pure := false) (own := false) (S39 w7) (ok_emit_Code_Fail H c11) (by generalize w7 = qp0; cases qp0 <;> kernel_rfl) (by generalize w7 = qp0; cases qp0 <;> kernel_rfl)) ?_
  exact ye
  refine w_ret ?_
  obtain e0 := some1_inv hF
  subst e0
  exact yi (vN)
  refine yF h10 ⟨[(E4 w7), E2, E3], [], H⟩ ?_
  refine w_skip ?_
  refine w_seq ?_
  obtain ⟨i13, o14, h15, hF⟩ := pbnd_inv hF
  let E15 : EN := (0, vo i13 o14)
  let E17 : EN := (24, vo i13 o14)
  let E18 : EN := (25, vo i13 o14)
  let E19 : EN := (26, vo i13 o14)
  let E29 : EN := (43, vo i13 o14)
  let E30 : EN := (45, vo i13 o14)
  let E31 : EN := (46, vo i13 o14)
  let E32 : EN := (47, vo i13 o14)
  let E36 : EN := (51, .one .top (.el (.obj i13 o14) (Int.toNat p1) 0))
  let S40 : St := ⟨[E15, E2, E3, E17, E18, E19], [], H⟩
  obtain ⟨x16, V17, hF⟩ := bind1_inv hF
  replace V17 := hgetT_inv V17
  let E20 : EN := (27, .one .bh (.sl 1 (List.map (eI .u32) x16.words_)))
  let E33 : EN := (48, .one .top (.at_ (.obj i13 o14) 0 ((List.map (eI .u32) x16.words_).length)))
  let S41 : St := ⟨[E15, E2, E3, E17, E18, E19, E20, E21], [], H⟩
  obtain ⟨x18, h19, hF⟩ := bind1_inv hF
  let E22 : EN := (29, .one .top (.rd .bh .bh [.int .u32 x18] 0))
  let E23 : EN := (30, vu x18)
  let S42 : St := ⟨[E15, E2, E3, E17, E18, E19, E20, E21, E22, E23], [], H⟩
  obtain ⟨r20, r21, c22, hF⟩ := bind2_inv hF
  let E24 : EN := (31, .tup [.agg (m0_instr_Instr r20), vi r21])
  let B25 : EB := (6, [(.top, .int .i64 r20.Op_), (.top, .int .i64 r20.A_), (.top, .int .i64 r20.B_), (.top, .int .i64 r20.C_), (.top, .int .i64 p2)])
  let E27 : EN := (37, .agg [(.top, .int .i64 r20.Op_), (.top, .int .i64 r20.A_), (.top, .int .i64 r20.B_), (.top, .int .i64 r20.C_), (.top, .int .i64 p2)])
  let S43 : St := ⟨[E15, E2, E16, E27], [B25], H⟩
  refine w_regO ⟨[E15, E2, E3, E16], [(6, (m0_instr_Instr r20))], H⟩ ?_ ?_
  refine yr 1 ⟨[(E4 w7), E2, E3, (24, vp w7)], [], H⟩ ?_ (h := (by generalize w7 = qp0; cases qp0 <;> kernel_rfl))
  refine o_eq (congrArg (fun q => (⟨[(0, vp q), E2, E3, (24, vp q)], [], H⟩ : St)) h15) ?_
  refine yr 1 ⟨[E15, E2, E3, E17, E18], [], H⟩ ?_
  refine yr 1 S40 ?_
  refine o_one ⟨[E15, E2, E3, E17, E18, E19, E20], [], H⟩ (yd (X := X) S40 42 V17 0 1 false (.one .bh (.sl 1 (List.map (eI .u32) x16.words_))) (some 27)) ?_
  refine yr 1 S41 ?_
  refine o_one ⟨[E15, E2, E3, E17, E18, E19, E20, E21, E22], [], H⟩ (st_ix (X := X) S41 42 35 1 h19 (eI .u32) .bh (some 29) (by kernel_rfl) (by kernel_rfl) (by kernel_rfl) (by kernel_rfl)) ?_
  refine yr 1 S42 ?_
  refine o_one ⟨[E15, E2, E3, E17, E18, E19, E20, E21, E22, E23, E24], [], H⟩ (yc (some 31) true false S42 (ok_instr_Decode H c22)) ?_
  refine yr 6 ⟨[E15, E2, E3, E16, (7, vi r21), (23, .tup [.agg (m0_instr_Instr r20), vi r21]), E17, E18, E19, E20, E21, E22, E23, E24, (32, .agg (m0_instr_Instr r20)), (33, vi r21)], [(6, (m0_instr_Instr r20))], H⟩ ?_
  exact ye
  refine ysg ⟨[E15, E2, E16], [B25], H⟩ ?_
  refine w_seq ?_
  obtain ⟨r23, r24, c25, hF⟩ := bind2_inv hF
  let E26 : EN := (8, vu r23)
  let E28 : EN := (38, .tup [vu r23, vi r24])
  let E35 : EN := (50, vu r23)
  let S44 : St := ⟨[E15, E2, E26, E30, E31, E32], [], H⟩
  let S45 : St := ⟨[E15, E2, E26, E30, E31, E32, E33, E34, E35], [], H⟩
  let S46 : St := ⟨[E15, E2, E26, E30, E31, E32, E33, E34, E35, E36], [], H⟩
  refine w_regO ⟨[E15, E2, E26, (9, vi r24)], [], H⟩ ?_ ?_
  refine yr 1 S43 ?_
  refine o_one ⟨[E15, E2, E16, E27, E28], [B25], H⟩ (yc (some 38) true false S43 (ok_instr_Encode H c25)) ?_
  refine yr 5 ⟨[E15, E2, E16, E26, (9, vi r24), (36, .tup [vu r23, vi r24]), E27, E28, (39, vu r23), (40, vi r24)], [B25], H⟩ ?_
  exact ye
  refine w_seq ?_
  refine ysg ⟨[E15, E2, E26, (42, vb (r24 != 0))], [], H⟩ ?_
  rcases if_inv hF with ⟨h26, hF⟩ | ⟨h26, hF⟩
  refine yT h26 ⟨[E15], [], H⟩ ?_
  refine w_seq ?_
  obtain ⟨H28, c27, hF⟩ := bind1_inv hF
  refine w_regO ⟨[], [], H28⟩ ?_ ?_
  refine yr 1 ⟨[E15, E29], [], H⟩ ?_
  refine o_one ⟨[E15, E29, (44, vN)], [], H28⟩ (yc (some 44) false false (⟨[E15, E29], [], H⟩ : St) (ok_emit_Code_Fail H c27)) ?_
  exact ye
  refine w_ret ?_
  obtain e0 := some1_inv hF
  subst e0
  exact yi (vN)
  refine yF h26 ⟨[E15, E2, E26], [], H⟩ ?_
  refine w_skip ?_
  obtain ⟨x29, h30, hF⟩ := bind1_inv hF
  obtain ⟨v31, h32, hF⟩ := bind1_inv hF
  let S47 : St := ⟨[E15, E2, E26, E30, E31, E32, E33, E34, E35, E36], [], (hset H i13 o14 [((.own 1), .sl 1 (List.map (eI .u32) v31)), ((.own 1), .sl 4 (List.map e_api_Fixup x16.fixups_)), ((.own 1), .sl 2 (List.map e_api_Segment x16.marks_.list_)), ((.own 1), .sl 1 (List.map (eI .i64) x16.pads_)), ((.own 1), .sl 1 (List.map (eI .i64) x16.active_)), (.top, .int .i64 x16.depth_), (.top, .int .i64 x16.most_), (.top, .int .i64 x16.err_)])⟩
  obtain ⟨H33, h34, hF⟩ := bnd_inv hF
  have V35 : hget H33 i13 o14 8 = some (o_emit_Code (T_emit_Code.mk v31 x16.fixups_ x16.marks_ x16.pads_ x16.active_ x16.depth_ x16.most_ x16.err_)) := by rw [← h34]; exact hset_get V17 rfl
  refine w_regO ⟨[], [], H33⟩ ?_ ?_
  refine yr 3 S44 ?_
  refine o_one ⟨[E15, E2, E26, E30, E31, E32, E33], [], H⟩ (st_ldP (X := X) S44 42 V17 0 0 1 (List.map (eI .u32) x16.words_) (some 48) (by kernel_rfl) (by kernel_rfl) (by kernel_rfl) (by kernel_rfl) (by kernel_rfl) (by kernel_rfl)) ?_
  refine yr 2 S45 ?_
  refine o_one S46 (st_ixA (X := X) S45 42 35 1 h30 (eI .u32) (.obj i13 o14) 0 (List.map (eI .u32) x16.words_).length 0 (some 51) (by kernel_rfl) (by kernel_rfl) (by kernel_rfl) (at_obj (k := 0) (c := ((.own 1), .sl 1 (List.map (eI .u32) x16.words_))) V17 (by kernel_rfl) (by kernel_rfl)) rfl (List.length_map _) (by kernel_rfl)) ?_
  refine o_one S47 (st_stE (X := X) S46 S47 ⟨false, []⟩ 35 (.obj i13 o14) (Int.toNat p1) 0 1 0 (List.map (eI .u32) x16.words_) [.int .u32 x29] ((eI .u32) r23) (List.map (eI .u32) v31) 1 (vu r23) (by kernel_rfl) (by kernel_rfl) (by kernel_rfl) (by kernel_rfl) (by kernel_rfl) (at_obj (k := 0) (c := ((.own 1), .sl 1 (List.map (eI .u32) x16.words_))) V17 (by kernel_rfl) (by kernel_rfl)) (el_at h30) (by kernel_rfl) (by kernel_rfl) (el_put h32) (root_obj (k := 0) V17 (by kernel_rfl) (hset_sub0 (k := 0) V17 (Nat.le_of_ble_eq_true rfl))) (by kernel_rfl)) ?_
  refine o_eq (congrArg (fun q => (⟨[E15, E2, E26, E30, E31, E32, E33, E34, E35, E36], [], q⟩ : St)) h34) ?_
  exact ye
  obtain e0 := some1_inv hF
  subst e0
  exact yi (vN)
noncomputable def emit_Code_Land (H : Heap) (p0 : Ptr) (p1 : Int) : Option (Heap) :=
  bind1 (emit_Code_Here H p0) fun r1 =>
  bind1 (emit_Code_set H p0 p1 (IntKind.wrap .i64 ((IntKind.wrap .i64 (r1 - p1)) - 1))) fun H4 =>
  some H4
theorem ok_emit_Code_Land (H : Heap) {p0 : Ptr} {p1 : Int} {Hr : Heap} (hF : emit_Code_Land H p0 p1 = some Hr) : evS X 48 [.one .top (Ptr.av p0), .one .top (.int .i64 p1)] H = some (.tup [], Hr) := by
  let E1 : Ptr → EN := fun z0 => (0, vp z0)
  let E2 : EN := (1, vi p1)
  let E3 : Ptr → EN := fun z0 => (4, vp z0)
  let E4 : EN := (5, vi p1)
  let E5 : Ptr → EN := fun z0 => (6, vp z0)
  let S8 : Ptr → St := fun z0 => ⟨[(E1 z0), E2, (E3 z0), E4, (E5 z0)], [], H⟩
  refine yf Try.func48 false ⟨[(E1 p0), E2], [], H⟩ ?_
  unfold emit_Code_Land at hF
  obtain ⟨r1, c2, hF⟩ := bind1_inv hF
  let E6 : EN := (9, vi (IntKind.wrap .i64 (r1 - p1)))
  let E7 : EN := (10, vi (IntKind.wrap .i64 ((IntKind.wrap .i64 (r1 - p1)) - 1)))
  let S9 : Ptr → St := fun z0 => ⟨[(E1 z0), E2, (E3 z0), E4, (E5 z0), (7, vi r1), (8, vi p1), E6, E7], [], H⟩
  obtain ⟨H4, c3, hF⟩ := bind1_inv hF
  refine w_regO ⟨[], [], H4⟩ ?_ ?_
  refine yr 3 (S8 p0) ?_ (h := (by generalize p0 = qp0; cases qp0 <;> kernel_rfl))
  refine o_one ⟨[(E1 p0), E2, (E3 p0), E4, (E5 p0), (7, vi r1)], [], H⟩ (st_call (d := (some 7)) (fz := false) (pure := true) (own := false) (S8 p0) (ok_emit_Code_Here H c2) (by generalize p0 = qp0; cases qp0 <;> kernel_rfl) (by generalize p0 = qp0; cases qp0 <;> kernel_rfl)) ?_
  refine yr 3 (S9 p0) ?_ (h := (by generalize p0 = qp0; cases qp0 <;> kernel_rfl))
  refine o_one ⟨[(E1 p0), E2, (E3 p0), E4, (E5 p0), (7, vi r1), (8, vi p1), E6, E7, (11, vN)], [], H4⟩ (st_call (d := (some 11)) (fz := false) (pure := false) (own := false) (S9 p0) (ok_emit_Code_set H c3) (by generalize p0 = qp0; cases qp0 <;> kernel_rfl) (by generalize p0 = qp0; cases qp0 <;> kernel_rfl)) ?_
  exact ye
  obtain e0 := some1_inv hF
  subst e0
  exact yi (vN)
noncomputable def item_Gen_Store (H : Heap) (p0 : Ptr) : Option (Heap) :=
  (p0).bnd fun i1 o2 =>
  bind1 (get_item_Gen H i1 o2) fun x4 =>
  bind1 (emit_Code_Pop H x4.Code_ 1) fun H7 =>
  bind1 (get_item_Gen H7 i1 o2) fun x8 =>
  bind2 (emit_Code_Sign H7 x8.Code_ 19 0 1 0) fun H12 r10 =>
  some H12
theorem ok_item_Gen_Store (H : Heap) {p0 : Ptr} {Hr : Heap} (hF : item_Gen_Store H p0 = some Hr) : evS X 80 [.one .top (Ptr.av p0)] H = some (.tup [], Hr) := by
  refine yf Try.func80 false ⟨[(0, vp p0)], [], H⟩ ?_
  unfold item_Gen_Store at hF
  refine w_seq ?_
  obtain ⟨i1, o2, h3, hF⟩ := pbnd_inv hF
  let E1 : EN := (0, vo i1 o2)
  let E2 : EN := (2, vo i1 o2)
  let E3 : EN := (3, vo i1 o2)
  let E4 : EN := (4, vo i1 o2)
  let E5 : EN := (7, vo i1 o2)
  let E6 : EN := (8, vo i1 o2)
  let E7 : EN := (9, vo i1 o2)
  let S8 : St := ⟨[E1, E2, E3, E4], [], H⟩
  obtain ⟨x4, V5, hF⟩ := bind1_inv hF
  replace V5 := hgetT_inv V5
  obtain ⟨H7, c6, hF⟩ := bind1_inv hF
  let S9 : St := ⟨[E1, E5, E6, E7], [], H7⟩
  refine w_regO ⟨[E1], [], H7⟩ ?_ ?_
  refine yr 1 ⟨[(0, vp p0), (2, vp p0)], [], H⟩ ?_ (h := (by generalize p0 = qp0; cases qp0 <;> kernel_rfl))
  refine o_eq (congrArg (fun q => (⟨[(0, vp q), (2, vp q)], [], H⟩ : St)) h3) ?_
  refine yr 1 ⟨[E1, E2, E3], [], H⟩ ?_
  refine yr 1 S8 ?_ (h := (by generalize x4.Code_ = qp0; generalize x4.Proc_.frame_ = qp1; cases qp0 <;> cases qp1 <;> kernel_rfl))
  refine o_one ⟨[E1, E2, E3, E4, (5, vp x4.Code_)], [], H⟩ (yd (X := X) S8 26 V5 0 1 false (vp x4.Code_) (some 5) (hs := (by generalize x4.Code_ = qp0; generalize x4.Proc_.frame_ = qp1; cases qp0 <;> cases qp1 <;> kernel_rfl))) ?_
  refine o_one ⟨[E1, E2, E3, E4, (5, vp x4.Code_), (6, vN)], [], H7⟩ (st_call (d := (some 6)) (fz := false) (pure := false) (own := false) (⟨[E1, E2, E3, E4, (5, vp x4.Code_)], [], H⟩ : St) (ok_emit_Code_Pop H c6) (by generalize x4.Code_ = qp0; generalize x4.Proc_.frame_ = qp1; cases qp0 <;> cases qp1 <;> kernel_rfl) (by generalize x4.Code_ = qp0; generalize x4.Proc_.frame_ = qp1; cases qp0 <;> cases qp1 <;> kernel_rfl)) ?_
  exact ye
  obtain ⟨x8, V9, hF⟩ := bind1_inv hF
  replace V9 := hgetT_inv V9
  obtain ⟨H12, r10, c11, hF⟩ := bind2_inv hF
  refine w_regO ⟨[], [], H12⟩ ?_ ?_
  refine yr 2 ⟨[E1, E5, E6], [], H7⟩ ?_
  refine yr 1 S9 ?_ (h := (by generalize x8.Code_ = qp0; generalize x8.Proc_.frame_ = qp1; cases qp0 <;> cases qp1 <;> kernel_rfl))
  refine o_one ⟨[E1, E5, E6, E7, (10, vp x8.Code_)], [], H7⟩ (yd (X := X) S9 26 V9 0 1 false (vp x8.Code_) (some 10) (hs := (by generalize x8.Code_ = qp0; generalize x8.Proc_.frame_ = qp1; cases qp0 <;> cases qp1 <;> kernel_rfl))) ?_
  refine o_one ⟨[E1, E5, E6, E7, (10, vp x8.Code_), (11, vi r10)], [], H12⟩ (st_call (d := (some 11)) (fz := false) (pure := false) (own := false) (⟨[E1, E5, E6, E7, (10, vp x8.Code_)], [], H7⟩ : St) (ok_emit_Code_Sign H7 c11) (by generalize x8.Code_ = qp0; generalize x8.Proc_.frame_ = qp1; cases qp0 <;> cases qp1 <;> kernel_rfl) (by generalize x8.Code_ = qp0; generalize x8.Proc_.frame_ = qp1; cases qp0 <;> cases qp1 <;> kernel_rfl)) ?_
  exact ye
  obtain e0 := some1_inv hF
  subst e0
  exact yi (vN)
noncomputable def item_Gen_Cell (H : Heap) (p0 : Ptr) (p1 : Int) : Option (Heap) :=
  (p0).bnd fun i1 o2 =>
  bind1 (get_item_Gen H i1 o2) fun x4 =>
  bind1 (emit_Code_Fix H x4.Code_ 4 0 0 1) fun H7 =>
  bind1 (get_item_Gen H7 i1 o2) fun x8 =>
  bind2 (emit_Code_Sign H7 x8.Code_ 18 0 1 0) fun H12 r10 =>
  bind1 (get_item_Gen H12 i1 o2) fun x13 =>
  bind2 (emit_Code_Sign H12 x13.Code_ 18 3 1 4) fun H17 r15 =>
  bind1 (get_item_Gen H17 i1 o2) fun x18 =>
  bind1 (emit_Code_Number H17 x18.Code_ 2 (IntKind.wrap .i32 (if 4 > p1 then 4 else p1))) fun H21 =>
  bind1 (get_item_Gen H21 i1 o2) fun x22 =>
  bind2 (emit_Code_Three H21 x22.Code_ 6 2 0 2) fun H26 r24 =>
  bind1 (get_item_Gen H26 i1 o2) fun x27 =>
  bind2 (emit_Code_Three H26 x27.Code_ 15 4 2 3) fun H31 r29 =>
  bind1 (get_item_Gen H31 i1 o2) fun x32 =>
  bind2 (emit_Code_Jump H31 x32.Code_ 21 4) fun H36 r34 =>
  bind1 (get_item_Gen H36 i1 o2) fun x37 =>
  bind2 (emit_Code_Put H36 x37.Code_ (T_instr_Instr.mk 28 0 0 0 6)) fun H41 r39 =>
  bind1 (get_item_Gen H41 i1 o2) fun x42 =>
  bind1 (emit_Code_Land H41 x42.Code_ r34) fun H45 =>
  bind1 (get_item_Gen H45 i1 o2) fun x46 =>
  bind2 (emit_Code_Sign H45 x46.Code_ 19 2 1 0) fun H50 r48 =>
  bind1 (item_Gen_Store H50 (Ptr.at i1 o2)) fun H52 =>
  some H52
theorem ok_item_Gen_Cell (H : Heap) {p0 : Ptr} {p1 : Int} {Hr : Heap} (hF : item_Gen_Cell H p0 p1 = some Hr) : evS X 40 [.one .top (Ptr.av p0), .one .top (.int .i64 p1)] H = some (.tup [], Hr) := by
  let E1 : EN := (1, vi p1)
  let E15 : EN := (25, vi (if 4 > p1 then 4 else p1))
  let E16 : EN := (26, .one .top (.int .i32 (IntKind.wrap .i32 (if 4 > p1 then 4 else p1))))
  let E30 : EN := (47, .agg [(.top, .int .i64 28), (.top, .int .i64 0), (.top, .int .i64 0), (.top, .int .i64 0), (.top, .int .i64 6)])
  refine yf Try.func40 false ⟨[(0, vp p0), E1], [], H⟩ ?_
  unfold item_Gen_Cell at hF
  refine w_seq ?_
  obtain ⟨i1, o2, h3, hF⟩ := pbnd_inv hF
  let E2 : EN := (0, vo i1 o2)
  let E3 : EN := (5, vo i1 o2)
  let E4 : EN := (6, vo i1 o2)
  let E5 : EN := (7, vo i1 o2)
  let E6 : EN := (10, vo i1 o2)
  let E7 : EN := (11, vo i1 o2)
  let E8 : EN := (12, vo i1 o2)
  let E9 : EN := (15, vo i1 o2)
  let E10 : EN := (16, vo i1 o2)
  let E11 : EN := (17, vo i1 o2)
  let E12 : EN := (20, vo i1 o2)
  let E13 : EN := (21, vo i1 o2)
  let E14 : EN := (22, vo i1 o2)
  let E17 : EN := (28, vo i1 o2)
  let E18 : EN := (29, vo i1 o2)
  let E19 : EN := (30, vo i1 o2)
  let E20 : EN := (33, vo i1 o2)
  let E21 : EN := (34, vo i1 o2)
  let E22 : EN := (35, vo i1 o2)
  let E24 : EN := (38, vo i1 o2)
  let E25 : EN := (39, vo i1 o2)
  let E26 : EN := (40, vo i1 o2)
  let E27 : EN := (43, vo i1 o2)
  let E28 : EN := (44, vo i1 o2)
  let E29 : EN := (45, vo i1 o2)
  let E31 : EN := (49, vo i1 o2)
  let E32 : EN := (50, vo i1 o2)
  let E33 : EN := (51, vo i1 o2)
  let E34 : EN := (55, vo i1 o2)
  let E35 : EN := (56, vo i1 o2)
  let E36 : EN := (57, vo i1 o2)
  let S37 : St := ⟨[E2, E1, E3, E4, E5], [], H⟩
  obtain ⟨x4, V5, hF⟩ := bind1_inv hF
  replace V5 := hgetT_inv V5
  obtain ⟨H7, c6, hF⟩ := bind1_inv hF
  let S38 : St := ⟨[E2, E1, E6, E7, E8], [], H7⟩
  refine w_regO ⟨[E2, E1], [], H7⟩ ?_ ?_
  refine yr 1 ⟨[(0, vp p0), E1, (5, vp p0)], [], H⟩ ?_ (h := (by generalize p0 = qp0; cases qp0 <;> kernel_rfl))
  refine o_eq (congrArg (fun q => (⟨[(0, vp q), E1, (5, vp q)], [], H⟩ : St)) h3) ?_
  refine yr 1 ⟨[E2, E1, E3, E4], [], H⟩ ?_
  refine yr 1 S37 ?_ (h := (by generalize x4.Code_ = qp0; generalize x4.Proc_.frame_ = qp1; cases qp0 <;> cases qp1 <;> kernel_rfl))
  refine o_one ⟨[E2, E1, E3, E4, E5, (8, vp x4.Code_)], [], H⟩ (yd (X := X) S37 26 V5 0 1 false (vp x4.Code_) (some 8) (hs := (by generalize x4.Code_ = qp0; generalize x4.Proc_.frame_ = qp1; cases qp0 <;> cases qp1 <;> kernel_rfl))) ?_
  refine o_one ⟨[E2, E1, E3, E4, E5, (8, vp x4.Code_), (9, vN)], [], H7⟩ (st_call (d := (some 9)) (fz := false) (pure := false) (own := false) (⟨[E2, E1, E3, E4, E5, (8, vp x4.Code_)], [], H⟩ : St) (ok_emit_Code_Fix H c6) (by generalize x4.Code_ = qp0; generalize x4.Proc_.frame_ = qp1; cases qp0 <;> cases qp1 <;> kernel_rfl) (by generalize x4.Code_ = qp0; generalize x4.Proc_.frame_ = qp1; cases qp0 <;> cases qp1 <;> kernel_rfl)) ?_
  exact ye
  refine w_seq ?_
  obtain ⟨x8, V9, hF⟩ := bind1_inv hF
  replace V9 := hgetT_inv V9
  obtain ⟨H12, r10, c11, hF⟩ := bind2_inv hF
  let S39 : St := ⟨[E2, E1, E9, E10, E11], [], H12⟩
  refine w_regO ⟨[E2, E1], [], H12⟩ ?_ ?_
  refine yr 2 ⟨[E2, E1, E6, E7], [], H7⟩ ?_
  refine yr 1 S38 ?_ (h := (by generalize x8.Code_ = qp0; generalize x8.Proc_.frame_ = qp1; cases qp0 <;> cases qp1 <;> kernel_rfl))
  refine o_one ⟨[E2, E1, E6, E7, E8, (13, vp x8.Code_)], [], H7⟩ (yd (X := X) S38 26 V9 0 1 false (vp x8.Code_) (some 13) (hs := (by generalize x8.Code_ = qp0; generalize x8.Proc_.frame_ = qp1; cases qp0 <;> cases qp1 <;> kernel_rfl))) ?_
  refine o_one ⟨[E2, E1, E6, E7, E8, (13, vp x8.Code_), (14, vi r10)], [], H12⟩ (st_call (d := (some 14)) (fz := false) (pure := false) (own := false) (⟨[E2, E1, E6, E7, E8, (13, vp x8.Code_)], [], H7⟩ : St) (ok_emit_Code_Sign H7 c11) (by generalize x8.Code_ = qp0; generalize x8.Proc_.frame_ = qp1; cases qp0 <;> cases qp1 <;> kernel_rfl) (by generalize x8.Code_ = qp0; generalize x8.Proc_.frame_ = qp1; cases qp0 <;> cases qp1 <;> kernel_rfl)) ?_
  exact ye
  refine w_seq ?_
  obtain ⟨x13, V14, hF⟩ := bind1_inv hF
  replace V14 := hgetT_inv V14
  obtain ⟨H17, r15, c16, hF⟩ := bind2_inv hF
  let S40 : St := ⟨[E2, E1, E12, E13, E14], [], H17⟩
  refine w_regO ⟨[E2, E1], [], H17⟩ ?_ ?_
  refine yr 2 ⟨[E2, E1, E9, E10], [], H12⟩ ?_
  refine yr 1 S39 ?_ (h := (by generalize x13.Code_ = qp0; generalize x13.Proc_.frame_ = qp1; cases qp0 <;> cases qp1 <;> kernel_rfl))
  refine o_one ⟨[E2, E1, E9, E10, E11, (18, vp x13.Code_)], [], H12⟩ (yd (X := X) S39 26 V14 0 1 false (vp x13.Code_) (some 18) (hs := (by generalize x13.Code_ = qp0; generalize x13.Proc_.frame_ = qp1; cases qp0 <;> cases qp1 <;> kernel_rfl))) ?_
  refine o_one ⟨[E2, E1, E9, E10, E11, (18, vp x13.Code_), (19, vi r15)], [], H17⟩ (st_call (d := (some 19)) (fz := false) (pure := false) (own := false) (⟨[E2, E1, E9, E10, E11, (18, vp x13.Code_)], [], H12⟩ : St) (ok_emit_Code_Sign H12 c16) (by generalize x13.Code_ = qp0; generalize x13.Proc_.frame_ = qp1; cases qp0 <;> cases qp1 <;> kernel_rfl) (by generalize x13.Code_ = qp0; generalize x13.Proc_.frame_ = qp1; cases qp0 <;> cases qp1 <;> kernel_rfl)) ?_
  exact ye
  refine w_seq ?_
  obtain ⟨x18, V19, hF⟩ := bind1_inv hF
  replace V19 := hgetT_inv V19
  obtain ⟨H21, c20, hF⟩ := bind1_inv hF
  let S41 : St := ⟨[E2, E17, E18, E19], [], H21⟩
  refine w_regO ⟨[E2], [], H21⟩ ?_ ?_
  refine yr 2 ⟨[E2, E1, E12, E13], [], H17⟩ ?_
  refine yr 1 S40 ?_ (h := (by generalize x18.Code_ = qp0; generalize x18.Proc_.frame_ = qp1; cases qp0 <;> cases qp1 <;> kernel_rfl))
  refine o_one ⟨[E2, E1, E12, E13, E14, (23, vp x18.Code_)], [], H17⟩ (yd (X := X) S40 26 V19 0 1 false (vp x18.Code_) (some 23) (hs := (by generalize x18.Code_ = qp0; generalize x18.Proc_.frame_ = qp1; cases qp0 <;> cases qp1 <;> kernel_rfl))) ?_
  refine yr 3 ⟨[E2, E1, E12, E13, E14, (23, vp x18.Code_), (24, vi p1), E15, E16], [], H17⟩ ?_ (h := (by generalize x18.Code_ = qp0; generalize x18.Proc_.frame_ = qp1; cases qp0 <;> cases qp1 <;> kernel_rfl))
  refine o_one ⟨[E2, E1, E12, E13, E14, (23, vp x18.Code_), (24, vi p1), E15, E16, (27, vN)], [], H21⟩ (st_call (d := (some 27)) (fz := false) (pure := false) (own := false) (⟨[E2, E1, E12, E13, E14, (23, vp x18.Code_), (24, vi p1), E15, E16], [], H17⟩ : St) (ok_emit_Code_Number H17 c20) (by generalize x18.Code_ = qp0; generalize x18.Proc_.frame_ = qp1; cases qp0 <;> cases qp1 <;> kernel_rfl) (by generalize x18.Code_ = qp0; generalize x18.Proc_.frame_ = qp1; cases qp0 <;> cases qp1 <;> kernel_rfl)) ?_
  exact ye
  refine w_seq ?_
  obtain ⟨x22, V23, hF⟩ := bind1_inv hF
  replace V23 := hgetT_inv V23
  obtain ⟨H26, r24, c25, hF⟩ := bind2_inv hF
  let S42 : St := ⟨[E2, E20, E21, E22], [], H26⟩
  refine w_regO ⟨[E2], [], H26⟩ ?_ ?_
  refine yr 2 ⟨[E2, E17, E18], [], H21⟩ ?_
  refine yr 1 S41 ?_ (h := (by generalize x22.Code_ = qp0; generalize x22.Proc_.frame_ = qp1; cases qp0 <;> cases qp1 <;> kernel_rfl))
  refine o_one ⟨[E2, E17, E18, E19, (31, vp x22.Code_)], [], H21⟩ (yd (X := X) S41 26 V23 0 1 false (vp x22.Code_) (some 31) (hs := (by generalize x22.Code_ = qp0; generalize x22.Proc_.frame_ = qp1; cases qp0 <;> cases qp1 <;> kernel_rfl))) ?_
  refine o_one ⟨[E2, E17, E18, E19, (31, vp x22.Code_), (32, vi r24)], [], H26⟩ (st_call (d := (some 32)) (fz := false) (pure := false) (own := false) (⟨[E2, E17, E18, E19, (31, vp x22.Code_)], [], H21⟩ : St) (ok_emit_Code_Three H21 c25) (by generalize x22.Code_ = qp0; generalize x22.Proc_.frame_ = qp1; cases qp0 <;> cases qp1 <;> kernel_rfl) (by generalize x22.Code_ = qp0; generalize x22.Proc_.frame_ = qp1; cases qp0 <;> cases qp1 <;> kernel_rfl)) ?_
  exact ye
  refine w_seq ?_
  obtain ⟨x27, V28, hF⟩ := bind1_inv hF
  replace V28 := hgetT_inv V28
  obtain ⟨H31, r29, c30, hF⟩ := bind2_inv hF
  let S43 : St := ⟨[E2, E24, E25, E26], [], H31⟩
  refine w_regO ⟨[E2], [], H31⟩ ?_ ?_
  refine yr 2 ⟨[E2, E20, E21], [], H26⟩ ?_
  refine yr 1 S42 ?_ (h := (by generalize x27.Code_ = qp0; generalize x27.Proc_.frame_ = qp1; cases qp0 <;> cases qp1 <;> kernel_rfl))
  refine o_one ⟨[E2, E20, E21, E22, (36, vp x27.Code_)], [], H26⟩ (yd (X := X) S42 26 V28 0 1 false (vp x27.Code_) (some 36) (hs := (by generalize x27.Code_ = qp0; generalize x27.Proc_.frame_ = qp1; cases qp0 <;> cases qp1 <;> kernel_rfl))) ?_
  refine o_one ⟨[E2, E20, E21, E22, (36, vp x27.Code_), (37, vi r29)], [], H31⟩ (st_call (d := (some 37)) (fz := false) (pure := false) (own := false) (⟨[E2, E20, E21, E22, (36, vp x27.Code_)], [], H26⟩ : St) (ok_emit_Code_Three H26 c30) (by generalize x27.Code_ = qp0; generalize x27.Proc_.frame_ = qp1; cases qp0 <;> cases qp1 <;> kernel_rfl) (by generalize x27.Code_ = qp0; generalize x27.Proc_.frame_ = qp1; cases qp0 <;> cases qp1 <;> kernel_rfl)) ?_
  exact ye
  refine w_seq ?_
  obtain ⟨x32, V33, hF⟩ := bind1_inv hF
  replace V33 := hgetT_inv V33
  obtain ⟨H36, r34, c35, hF⟩ := bind2_inv hF
  let E23 : EN := (4, vi r34)
  let S44 : St := ⟨[E2, E23, E27, E28, E29], [], H36⟩
  refine w_regO ⟨[E2, E23], [], H36⟩ ?_ ?_
  refine yr 2 ⟨[E2, E24, E25], [], H31⟩ ?_
  refine yr 1 S43 ?_ (h := (by generalize x32.Code_ = qp0; generalize x32.Proc_.frame_ = qp1; cases qp0 <;> cases qp1 <;> kernel_rfl))
  refine o_one ⟨[E2, E24, E25, E26, (41, vp x32.Code_)], [], H31⟩ (yd (X := X) S43 26 V33 0 1 false (vp x32.Code_) (some 41) (hs := (by generalize x32.Code_ = qp0; generalize x32.Proc_.frame_ = qp1; cases qp0 <;> cases qp1 <;> kernel_rfl))) ?_
  refine o_one ⟨[E2, E24, E25, E26, (41, vp x32.Code_), (42, vi r34)], [], H36⟩ (st_call (d := (some 42)) (fz := false) (pure := false) (own := false) (⟨[E2, E24, E25, E26, (41, vp x32.Code_)], [], H31⟩ : St) (ok_emit_Code_Jump H31 c35) (by generalize x32.Code_ = qp0; generalize x32.Proc_.frame_ = qp1; cases qp0 <;> cases qp1 <;> kernel_rfl) (by generalize x32.Code_ = qp0; generalize x32.Proc_.frame_ = qp1; cases qp0 <;> cases qp1 <;> kernel_rfl)) ?_
  refine yr 1 ⟨[E2, E23, E24, E25, E26, (41, vp x32.Code_), (42, vi r34)], [], H36⟩ ?_ (h := (by generalize x32.Code_ = qp0; cases qp0 <;> kernel_rfl))
  exact ye
  refine w_seq ?_
  obtain ⟨x37, V38, hF⟩ := bind1_inv hF
  replace V38 := hgetT_inv V38
  obtain ⟨H41, r39, c40, hF⟩ := bind2_inv hF
  let S45 : St := ⟨[E2, E23, E31, E32, E33], [], H41⟩
  refine w_regO ⟨[E2, E23], [], H41⟩ ?_ ?_
  refine yr 2 ⟨[E2, E23, E27, E28], [], H36⟩ ?_
  refine yr 1 S44 ?_ (h := (by generalize x37.Code_ = qp0; generalize x37.Proc_.frame_ = qp1; cases qp0 <;> cases qp1 <;> kernel_rfl))
  refine o_one ⟨[E2, E23, E27, E28, E29, (46, vp x37.Code_)], [], H36⟩ (yd (X := X) S44 26 V38 0 1 false (vp x37.Code_) (some 46) (hs := (by generalize x37.Code_ = qp0; generalize x37.Proc_.frame_ = qp1; cases qp0 <;> cases qp1 <;> kernel_rfl))) ?_
  refine yr 1 ⟨[E2, E23, E27, E28, E29, (46, vp x37.Code_), E30], [], H36⟩ ?_ (h := (by generalize x37.Code_ = qp0; generalize x37.Proc_.frame_ = qp1; cases qp0 <;> cases qp1 <;> kernel_rfl))
  refine o_one ⟨[E2, E23, E27, E28, E29, (46, vp x37.Code_), E30, (48, vi r39)], [], H41⟩ (st_call (d := (some 48)) (fz := false) (pure := false) (own := false) (⟨[E2, E23, E27, E28, E29, (46, vp x37.Code_), E30], [], H36⟩ : St) (ok_emit_Code_Put H36 c40) (by generalize x37.Code_ = qp0; generalize x37.Proc_.frame_ = qp1; cases qp0 <;> cases qp1 <;> kernel_rfl) (by generalize x37.Code_ = qp0; generalize x37.Proc_.frame_ = qp1; cases qp0 <;> cases qp1 <;> kernel_rfl)) ?_
  exact ye
  refine w_seq ?_
  obtain ⟨x42, V43, hF⟩ := bind1_inv hF
  replace V43 := hgetT_inv V43
  obtain ⟨H45, c44, hF⟩ := bind1_inv hF
  let S46 : St := ⟨[E2, E34, E35, E36], [], H45⟩
  refine w_regO ⟨[E2], [], H45⟩ ?_ ?_
  refine yr 2 ⟨[E2, E23, E31, E32], [], H41⟩ ?_
  refine yr 1 S45 ?_ (h := (by generalize x42.Code_ = qp0; generalize x42.Proc_.frame_ = qp1; cases qp0 <;> cases qp1 <;> kernel_rfl))
  refine o_one ⟨[E2, E23, E31, E32, E33, (52, vp x42.Code_)], [], H41⟩ (yd (X := X) S45 26 V43 0 1 false (vp x42.Code_) (some 52) (hs := (by generalize x42.Code_ = qp0; generalize x42.Proc_.frame_ = qp1; cases qp0 <;> cases qp1 <;> kernel_rfl))) ?_
  refine yr 1 ⟨[E2, E23, E31, E32, E33, (52, vp x42.Code_), (53, vi r34)], [], H41⟩ ?_ (h := (by generalize x42.Code_ = qp0; generalize x42.Proc_.frame_ = qp1; cases qp0 <;> cases qp1 <;> kernel_rfl))
  refine o_one ⟨[E2, E23, E31, E32, E33, (52, vp x42.Code_), (53, vi r34), (54, vN)], [], H45⟩ (st_call (d := (some 54)) (fz := false) (pure := false) (own := false) (⟨[E2, E23, E31, E32, E33, (52, vp x42.Code_), (53, vi r34)], [], H41⟩ : St) (ok_emit_Code_Land H41 c44) (by generalize x42.Code_ = qp0; generalize x42.Proc_.frame_ = qp1; cases qp0 <;> cases qp1 <;> kernel_rfl) (by generalize x42.Code_ = qp0; generalize x42.Proc_.frame_ = qp1; cases qp0 <;> cases qp1 <;> kernel_rfl)) ?_
  exact ye
  refine w_seq ?_
  obtain ⟨x46, V47, hF⟩ := bind1_inv hF
  replace V47 := hgetT_inv V47
  obtain ⟨H50, r48, c49, hF⟩ := bind2_inv hF
  let S47 : St := ⟨[E2, (60, vo i1 o2)], [], H50⟩
  refine w_regO ⟨[E2], [], H50⟩ ?_ ?_
  refine yr 2 ⟨[E2, E34, E35], [], H45⟩ ?_
  refine yr 1 S46 ?_ (h := (by generalize x46.Code_ = qp0; generalize x46.Proc_.frame_ = qp1; cases qp0 <;> cases qp1 <;> kernel_rfl))
  refine o_one ⟨[E2, E34, E35, E36, (58, vp x46.Code_)], [], H45⟩ (yd (X := X) S46 26 V47 0 1 false (vp x46.Code_) (some 58) (hs := (by generalize x46.Code_ = qp0; generalize x46.Proc_.frame_ = qp1; cases qp0 <;> cases qp1 <;> kernel_rfl))) ?_
  refine o_one ⟨[E2, E34, E35, E36, (58, vp x46.Code_), (59, vi r48)], [], H50⟩ (st_call (d := (some 59)) (fz := false) (pure := false) (own := false) (⟨[E2, E34, E35, E36, (58, vp x46.Code_)], [], H45⟩ : St) (ok_emit_Code_Sign H45 c49) (by generalize x46.Code_ = qp0; generalize x46.Proc_.frame_ = qp1; cases qp0 <;> cases qp1 <;> kernel_rfl) (by generalize x46.Code_ = qp0; generalize x46.Proc_.frame_ = qp1; cases qp0 <;> cases qp1 <;> kernel_rfl)) ?_
  exact ye
  obtain ⟨H52, c51, hF⟩ := bind1_inv hF
  refine w_regO ⟨[], [], H52⟩ ?_ ?_
  refine yr 1 S47 ?_
  refine o_one ⟨[E2, (60, vo i1 o2), (61, vN)], [], H52⟩ (yc (some 61) false false S47 (ok_item_Gen_Store H50 c51)) ?_
  exact ye
  obtain e0 := some1_inv hF
  subst e0
  exact yi (vN)
theorem ok_ref19_Run_2 (H : Heap) {p0 : (List Int)} {p1 : (List Int)} {p2 : Int} {p3 : (List Int)} {p4 : (Arr 16 Int)} {p5 : Int} {ra : T_ref04_Cpu} {rb : T_ref03_Mem} (hF : ref19_Run p0 p1 p2 p3 p4 p5 = some (ra, rb)) : evS X 38 [.one .ro (.sl 1 (List.map (eI .u32) p0)), .one .ro (.sl 1 (List.map (eI .u32) p1)), .one .top (.int .i64 p2), .one .ro (.sl 1 (List.map (eI .u32) p3)), .agg (arM .u32 16 p4), .one .top (.int .i64 p5)] H = some (.tup [.agg (m1_ref04_Cpu ra), .agg (m0_ref03_Mem rb)], H) := by
  let E1 : EN := (0, .one .ro (.sl 1 (List.map (eI .u32) p0)))
  let E2 : EN := (1, .one .ro (.sl 1 (List.map (eI .u32) p1)))
  let E3 : EN := (2, vi p2)
  let E4 : EN := (3, .one .ro (.sl 1 (List.map (eI .u32) p3)))
  let E5 : EN := (5, vi p5)
  let E6 : EN := (10, vl 10 0)
  let E7 : EN := (12, vl 12 0)
  let E8 : EN := (13, vl 13 0)
  let B9 : EB := (10, (arM .u32 16 p4))
  let B10 : EB := (12, (List.replicate 19 (.top, .int .u32 0) ++ List.replicate 4 (.top, .int .i64 0) ++ [((.own 1), .sl 2 (List.map e_api_Event ([] : List T_api_Event)))] ++ List.replicate 4 (.top, .int .u32 0) ++ [((.own 1), .sl 1 (List.map (eI .i32) ([] : List Int)))]))
  let B11 : EB := (13, (List.replicate 5 (.top, .int .u32 0) ++ [((.own 1), .sl 1 (List.map (eI .u32) ([] : List Int)))]))
  let E12 : EN := (14, vu (IntKind.wrap .u32 (IntKind.wrap .i64 (4 * (p0.length : Int)))))
  let E13 : EN := (20, .one .ro (.sl 1 (List.map (eI .u32) p0)))
  let E14 : EN := (15, vu (IntKind.wrap .u32 ((IntKind.wrap .u32 (IntKind.wrap .i64 (4 * (p0.length : Int)))) + (IntKind.wrap .u32 (IntKind.wrap .i64 (4 * (p1.length : Int)))))))
  let E15 : EN := (24, vu (IntKind.wrap .u32 (IntKind.wrap .i64 (4 * (p0.length : Int)))))
  let E16 : EN := (25, .one .ro (.sl 1 (List.map (eI .u32) p1)))
  let E17 : EN := (16, vu (IntKind.wrap .u32 ((IntKind.wrap .u32 ((IntKind.wrap .u32 (IntKind.wrap .i64 (4 * (p0.length : Int)))) + (IntKind.wrap .u32 (IntKind.wrap .i64 (4 * (p1.length : Int)))))) + (IntKind.wrap .u32 p2))))
  let E18 : EN := (17, vl 17 0)
  let E20 : EN := (34, vu (IntKind.wrap .u32 (IntKind.wrap .i64 (4 * (p0.length : Int)))))
  let E21 : EN := (35, vu (IntKind.wrap .u32 (IntKind.wrap .i64 (4 * (p0.length : Int)))))
  let E22 : EN := (36, vu (IntKind.wrap .u32 ((IntKind.wrap .u32 (IntKind.wrap .i64 (4 * (p0.length : Int)))) + (IntKind.wrap .u32 (IntKind.wrap .i64 (4 * (p1.length : Int)))))))
  let E23 : EN := (37, vu (IntKind.wrap .u32 ((IntKind.wrap .u32 ((IntKind.wrap .u32 (IntKind.wrap .i64 (4 * (p0.length : Int)))) + (IntKind.wrap .u32 (IntKind.wrap .i64 (4 * (p1.length : Int)))))) + (IntKind.wrap .u32 p2))))
  let E24 : EN := (38, vu (IntKind.wrap .u32 ((IntKind.wrap .u32 ((IntKind.wrap .u32 (IntKind.wrap .i64 (4 * (p0.length : Int)))) + (IntKind.wrap .u32 (IntKind.wrap .i64 (4 * (p1.length : Int)))))) + (IntKind.wrap .u32 p2))))
  let E25 : EN := (39, .one .ro (.sl 1 (List.map (eI .u32) p3)))
  let E26 : EN := (40, vi (p3.length : Int))
  let E27 : EN := (41, vi (IntKind.wrap .i64 (4 * (p3.length : Int))))
  let E28 : EN := (42, vu (IntKind.wrap .u32 (IntKind.wrap .i64 (4 * (p3.length : Int)))))
  let E29 : EN := (43, vu (IntKind.wrap .u32 ((IntKind.wrap .u32 ((IntKind.wrap .u32 ((IntKind.wrap .u32 (IntKind.wrap .i64 (4 * (p0.length : Int)))) + (IntKind.wrap .u32 (IntKind.wrap .i64 (4 * (p1.length : Int)))))) + (IntKind.wrap .u32 p2))) + (IntKind.wrap .u32 (IntKind.wrap .i64 (4 * (p3.length : Int)))))))
  let E30 : EN := (44, .agg [(.top, .int .u32 (IntKind.wrap .u32 (IntKind.wrap .i64 (4 * (p0.length : Int))))), (.top, .int .u32 (IntKind.wrap .u32 (IntKind.wrap .i64 (4 * (p0.length : Int))))), (.top, .int .u32 (IntKind.wrap .u32 ((IntKind.wrap .u32 (IntKind.wrap .i64 (4 * (p0.length : Int)))) + (IntKind.wrap .u32 (IntKind.wrap .i64 (4 * (p1.length : Int))))))), (.top, .int .u32 (IntKind.wrap .u32 ((IntKind.wrap .u32 ((IntKind.wrap .u32 (IntKind.wrap .i64 (4 * (p0.length : Int)))) + (IntKind.wrap .u32 (IntKind.wrap .i64 (4 * (p1.length : Int)))))) + (IntKind.wrap .u32 p2)))), (.top, .int .u32 (IntKind.wrap .u32 ((IntKind.wrap .u32 ((IntKind.wrap .u32 ((IntKind.wrap .u32 (IntKind.wrap .i64 (4 * (p0.length : Int)))) + (IntKind.wrap .u32 (IntKind.wrap .i64 (4 * (p1.length : Int)))))) + (IntKind.wrap .u32 p2))) + (IntKind.wrap .u32 (IntKind.wrap .i64 (4 * (p3.length : Int)))))))])
  let E34 : EN := (48, .one .ro (.sl 1 (List.map (eI .u32) p0)))
  let E38 : EN := (54, vu (IntKind.wrap .u32 (IntKind.wrap .i64 (4 * (p0.length : Int)))))
  let E39 : EN := (55, .one .ro (.sl 1 (List.map (eI .u32) p1)))
  let E43 : EN := (61, vu (IntKind.wrap .u32 ((IntKind.wrap .u32 ((IntKind.wrap .u32 (IntKind.wrap .i64 (4 * (p0.length : Int)))) + (IntKind.wrap .u32 (IntKind.wrap .i64 (4 * (p1.length : Int)))))) + (IntKind.wrap .u32 p2))))
  let E44 : EN := (62, .one .ro (.sl 1 (List.map (eI .u32) p3)))
  let E46 : EN := (18, vl 18 0)
  let B47 : EB := (18, (arM .u32 16 p4 ++ [(.top, .int .u32 4), (.top, .int .u32 0), (.top, .int .u32 0)] ++ List.replicate 4 (.top, .int .i64 0) ++ [((.own 0), .sl 2 (List.map e_api_Event ([] : List T_api_Event))), (.top, .int .u32 4), (.top, .int .u32 0), (.top, .int .u32 4), (.top, .int .u32 (IntKind.wrap .u32 ((IntKind.wrap .u32 ((IntKind.wrap .u32 (IntKind.wrap .i64 (4 * (p0.length : Int)))) + (IntKind.wrap .u32 (IntKind.wrap .i64 (4 * (p1.length : Int)))))) + (IntKind.wrap .u32 p2)))), ((.own 0), .sl 1 (List.map (eI .i32) ([] : List Int)))]))
  let E52 : EN := (70, vi p5)
  let S63 : St := ⟨[E1, E2, E3, E4, E5, E6, E7, E8, E13], [B9, B10, B11], H⟩
  let S64 : St := ⟨[E1, E2, E3, E4, E5, E6, E7, E8, E12, E15, E16], [B9, B10, B11], H⟩
  let S65 : St := ⟨[E1, E2, E4, E5, E6, E7, E8, E12, E14, E17, E20, E21, E22, E23, E24, E25], [B9, B10, B11], H⟩
  let S66 : St := ⟨[E1, E2, E4, E5, E6, E7, E8, E12, E14, E17, E20, E21, E22, E23, E24, E25, E26, E27, E28, E29, E30], [B9, B10, B11], H⟩
  refine yf Try.func38 true ⟨[E1, E2, E3, E4, (4, .agg (arM .u32 16 p4)), E5], [], H⟩ ?_
  unfold ref19_Run at hF
  refine ysg ⟨[E1, E2, E3, E4, E5, E6, E7, E8], [B9, B10, B11], H⟩ ?_
  refine yso ⟨[E1, E2, E3, E4, E5, E6, E7, E8, E12], [B9, B10, B11], H⟩ ?_ ?_
  refine yr 1 S63 ?_
  refine o_one ⟨[E1, E2, E3, E4, E5, E6, E7, E8, E13, (21, vi (p0.length : Int))], [B9, B10, B11], H⟩ (yl S63 p0 (eI .u32) (some 21)) ?_
  refine yr 3 ⟨[E1, E2, E3, E4, E5, E6, E7, E8, E12, E13, (21, vi (p0.length : Int)), (22, vi (IntKind.wrap .i64 (4 * (p0.length : Int)))), (23, vu (IntKind.wrap .u32 (IntKind.wrap .i64 (4 * (p0.length : Int)))))], [B9, B10, B11], H⟩ ?_
  exact ye
  refine yso ⟨[E1, E2, E3, E4, E5, E6, E7, E8, E12, E14], [B9, B10, B11], H⟩ ?_ ?_
  refine yr 2 S64 ?_
  refine o_one ⟨[E1, E2, E3, E4, E5, E6, E7, E8, E12, E15, E16, (26, vi (p1.length : Int))], [B9, B10, B11], H⟩ (yl S64 p1 (eI .u32) (some 26)) ?_
  refine yr 4 ⟨[E1, E2, E3, E4, E5, E6, E7, E8, E12, E14, E15, E16, (26, vi (p1.length : Int)), (27, vi (IntKind.wrap .i64 (4 * (p1.length : Int)))), (28, vu (IntKind.wrap .u32 (IntKind.wrap .i64 (4 * (p1.length : Int))))), (29, vu (IntKind.wrap .u32 ((IntKind.wrap .u32 (IntKind.wrap .i64 (4 * (p0.length : Int)))) + (IntKind.wrap .u32 (IntKind.wrap .i64 (4 * (p1.length : Int)))))))], [B9, B10, B11], H⟩ ?_
  exact ye
  refine ysg ⟨[E1, E2, E4, E5, E6, E7, E8, E12, E14, E17], [B9, B10, B11], H⟩ ?_
  refine w_seq ?_
  obtain ⟨r1, c2, hF⟩ := bind1_inv hF
  let B19 : EB := (17, (m0_ref03_Mem r1))
  let E31 : EN := (45, .agg (m0_ref03_Mem r1))
  let E33 : EN := (47, .agg (m0_ref03_Mem r1))
  let S67 : St := ⟨[E1, E2, E4, E5, E6, E7, E8, E12, E17, E18, E33, E34], [B9, B10, B11, B19], H⟩
  refine w_regO ⟨[E1, E2, E4, E5, E6, E7, E8, E12, E17, E18], [B9, B10, B11, B19], H⟩ ?_ ?_
  refine yr 6 S65 ?_
  refine o_one ⟨[E1, E2, E4, E5, E6, E7, E8, E12, E14, E17, E20, E21, E22, E23, E24, E25, E26], [B9, B10, B11], H⟩ (yl S65 p3 (eI .u32) (some 40)) ?_
  refine yr 4 S66 ?_
  refine o_one ⟨[E1, E2, E4, E5, E6, E7, E8, E12, E14, E17, E20, E21, E22, E23, E24, E25, E26, E27, E28, E29, E30, E31], [B9, B10, B11], H⟩ (yc (some 45) true false S66 (ok_ref03_New H c2)) ?_
  refine yr 2 ⟨[E1, E2, E4, E5, E6, E7, E8, E12, E14, E17, E18, E20, E21, E22, E23, E24, E25, E26, E27, E28, E29, E30, E31], [B9, B10, B11, B19], H⟩ ?_
  exact ye
  refine w_seq ?_
  obtain ⟨r3, r4, c5, hF⟩ := bind2_inv hF
  let B32 : EB := (17, (m0_ref03_Mem r3))
  let E35 : EN := (49, .tup [.agg (m0_ref03_Mem r3), vi r4])
  let E37 : EN := (53, .agg (m0_ref03_Mem r3))
  let S68 : St := ⟨[E2, E4, E5, E6, E7, E8, E12, E17, E18, E37, E38, E39], [B9, B10, B11, B32], H⟩
  refine w_regO ⟨[E2, E4, E5, E6, E7, E8, E12, E17, E18], [B9, B10, B11, B32], H⟩ ?_ ?_
  refine yr 2 S67 ?_
  refine o_one ⟨[E1, E2, E4, E5, E6, E7, E8, E12, E17, E18, E33, E34, E35], [B9, B10, B11, B19], H⟩ (yc (some 49) true false S67 (ok_ref03_Fill H c5)) ?_
  refine yr 4 ⟨[E1, E2, E4, E5, E6, E7, E8, E12, E17, E18, (46, .tup [.agg (m0_ref03_Mem r3), vi r4]), E33, E34, E35, (50, .agg (m0_ref03_Mem r3)), (51, vi r4)], [B9, B10, B11, B32], H⟩ ?_
  exact ye
  refine w_seq ?_
  obtain ⟨r6, r7, c8, hF⟩ := bind2_inv hF
  let B36 : EB := (17, (m0_ref03_Mem r6))
  let E40 : EN := (56, .tup [.agg (m0_ref03_Mem r6), vi r7])
  let E42 : EN := (60, .agg (m0_ref03_Mem r6))
  let S69 : St := ⟨[E4, E5, E6, E7, E8, E17, E18, E42, E43, E44], [B9, B10, B11, B36], H⟩
  refine w_regO ⟨[E4, E5, E6, E7, E8, E17, E18], [B9, B10, B11, B36], H⟩ ?_ ?_
  refine yr 3 S68 ?_
  refine o_one ⟨[E2, E4, E5, E6, E7, E8, E12, E17, E18, E37, E38, E39, E40], [B9, B10, B11, B32], H⟩ (yc (some 56) true false S68 (ok_ref03_Fill H c8)) ?_
  refine yr 4 ⟨[E2, E4, E5, E6, E7, E8, E12, E17, E18, (52, .tup [.agg (m0_ref03_Mem r6), vi r7]), E37, E38, E39, E40, (57, .agg (m0_ref03_Mem r6)), (58, vi r7)], [B9, B10, B11, B36], H⟩ ?_
  exact ye
  refine w_seq ?_
  obtain ⟨r9, r10, c11, hF⟩ := bind2_inv hF
  let B41 : EB := (17, (m0_ref03_Mem r9))
  let E45 : EN := (63, .tup [.agg (m0_ref03_Mem r9), vi r10])
  refine w_regO ⟨[E5, E6, E7, E8, E17, E18], [B9, B10, B11, B41], H⟩ ?_ ?_
  refine yr 3 S69 ?_
  refine o_one ⟨[E4, E5, E6, E7, E8, E17, E18, E42, E43, E44, E45], [B9, B10, B11, B36], H⟩ (yc (some 63) true false S69 (ok_ref03_Fill H c11)) ?_
  refine yr 4 ⟨[E4, E5, E6, E7, E8, E17, E18, (59, .tup [.agg (m0_ref03_Mem r9), vi r10]), E42, E43, E44, E45, (64, .agg (m0_ref03_Mem r9)), (65, vi r10)], [B9, B10, B11, B41], H⟩ ?_
  exact ye
  refine ysg ⟨[E5, E7, E8, E18, E46], [B10, B11, B41, B47], H⟩ ?_
  refine w_seq ?_
  refine ysg ⟨[E5, E7, E8, E18, E46, (19, vi 0)], [B10, B11, B41, B47], H⟩ ?_
  refine w_block ?_
  obtain ⟨r20, hL21, hF⟩ := bind1_inv hF
  refine w_loop (fun (x : (Int × T_ref03_Mem × T_ref04_Cpu)) => (⟨[E5, E7, E8, E18, E46, (19, vi x.1)], [B10, B11, (17, (m0_ref03_Mem x.2.1)), (18, (m1_ref04_Cpu x.2.2))], H⟩ : St)) (fun (y : (T_ref03_Mem × T_ref04_Cpu)) => ((.exit 0, (⟨[E7, E8, E18, E46], [B10, B11, (17, (m0_ref03_Mem y.1)), (18, (m1_ref04_Cpu y.2))], H⟩ : St)) : Ex × St)) hL21 (by kernel_rfl) ?_ ?_
  rintro ⟨a12, a13, a14⟩ o hF
  replace hF : ref19_Run_L1 p5 a12 a13 a14 = some o := hF
  let E48 : EN := (19, vi a12)
  let B49 : EB := (17, (m0_ref03_Mem a13))
  let B50 : EB := (18, (m1_ref04_Cpu a14))
  let E51 : EN := (69, vi a12)
  let E55 : EN := (80, .agg (m1_ref04_Cpu a14))
  let E56 : EN := (81, .agg (m0_ref03_Mem a13))
  let S70 : St := ⟨[E5, E7, E8, E18, E46, E48, E55, E56], [B10, B11, B49, B50], H⟩
  unfold ref19_Run_L1 at hF
  refine w_seq ?_
  refine yso ⟨[E5, E7, E8, E18, E46, E48, (76, vb ((decide (a12 < p5)) && (a14.State_ == 0)))], [B10, B11, B49, B50], H⟩ ?_ ?_
  refine yr 4 ⟨[E5, E7, E8, E18, E46, E48, E51, E52, (71, vb (decide (a12 < p5))), (72, vb (decide (a12 < p5)))], [B10, B11, B49, B50], H⟩ ?_
  rcases bool_cases (decide (a12 < p5)) with h15 | h15
  refine o_eq (congrArg (fun q => (⟨[E5, E7, E8, E18, E46, E48, E51, E52, (71, vb q), (72, vb q)], [B10, B11, B49, B50], H⟩ : St)) h15) ?_
  refine yr 4 ⟨[E5, E7, E8, E18, E46, E48, E51, E52, (71, vT), (72, vT), (73, vl 18 19), (74, vi a14.State_), (75, vb (a14.State_ == 0)), (76, vb (a14.State_ == 0))], [B10, B11, B49, B50], H⟩ ?_
  refine o_eq2 (congrArg (fun q0 => (⟨[E5, E7, E8, E18, E46, E48, (76, vb q0)], [B10, B11, B49, B50], H⟩ : St)) (show (a14.State_ == 0) = ((decide (a12 < p5)) && (a14.State_ == 0)) by simp [h15])) ?_
  exact ye
  refine o_eq (congrArg (fun q => (⟨[E5, E7, E8, E18, E46, E48, E51, E52, (71, vb q), (72, vb q)], [B10, B11, B49, B50], H⟩ : St)) h15) ?_
  refine yr 4 ⟨[E5, E7, E8, E18, E46, E48, E51, E52, (71, vF), (72, vF), (73, vN), (74, vN), (75, vN), (76, vF)], [B10, B11, B49, B50], H⟩ ?_
  refine o_eq2 (congrArg (fun q0 => (⟨[E5, E7, E8, E18, E46, E48, (76, vb q0)], [B10, B11, B49, B50], H⟩ : St)) (show false = ((decide (a12 < p5)) && (a14.State_ == 0)) by simp [h15])) ?_
  exact ye
  rcases if_inv hF with ⟨h16, hF⟩ | ⟨h16, hF⟩
  refine yT h16 ⟨[E5, E7, E8, E18, E46, E48], [B10, B11, B49, B50], H⟩ ?_
  refine w_skip ?_
  refine w_seq ?_
  refine w_block ?_
  obtain ⟨r17, r18, c19, hF⟩ := bind2_inv hF
  let B53 : EB := (17, (m0_ref03_Mem r18))
  let B54 : EB := (18, (m1_ref04_Cpu r17))
  let E57 : EN := (82, .tup [.agg (m1_ref04_Cpu r17), .agg (m0_ref03_Mem r18)])
  refine w_regO ⟨[E5, E7, E8, E18, E46, E48], [B10, B11, B53, B54], H⟩ ?_ ?_
  refine yr 2 S70 ?_
  refine o_one ⟨[E5, E7, E8, E18, E46, E48, E55, E56, E57], [B10, B11, B49, B50], H⟩ (yc (some 82) true false S70 (ok_ref04_Step H c19)) ?_
  refine yr 5 ⟨[E5, E7, E8, E18, E46, E48, (79, .tup [.agg (m1_ref04_Cpu r17), .agg (m0_ref03_Mem r18)]), E55, E56, E57, (83, .agg (m1_ref04_Cpu r17)), (84, .agg (m0_ref03_Mem r18))], [B10, B11, B53, B54], H⟩ ?_
  exact ye
  refine yg ⟨[E5, E7, E8, E18, E46, (19, vi (IntKind.wrap .i64 (a12 + 1)))], [B10, B11, B53, B54], H⟩ ?_
  cases hF
  exact ⟨_, rfl, (by kernel_rfl)⟩
  refine yF h16 ⟨[E7, E8, E18, E46], [B10, B11, B49, B50], H⟩ ?_
  refine w_exit ?_
  cases hF
  exact ⟨_, rfl, (by kernel_rfl)⟩
  obtain ⟨b22, b23⟩ := r20
  replace hF := tup2_inv hF
  let B58 : EB := (17, (m0_ref03_Mem b22))
  let B59 : EB := (18, (m1_ref04_Cpu b23))
  let B60 : EB := (12, (m1_ref04_Cpu b23))
  let E61 : EN := (85, .agg (m1_ref04_Cpu b23))
  let E62 : EN := (86, .agg (m0_ref03_Mem b22))
  refine w_oe (i := 0) (s := (⟨[E7, E8, E18, E46], [B10, B11, B58, B59], H⟩ : St)) (by kernel_rfl) ?_
  refine e_here ?_
  refine w_seq ?_
  refine w_regD (.take 0 (.take 1 (.last 2 (.last 3 .done)))) (by kernel_rfl) (⟨[E7, E8], [B60, (13, (m0_ref03_Mem b22))], H⟩ : St) ?_ ?_
  refine ydt ⟨[E7, E8, E18, E46, E61], [B10, B11, B58, B59], H⟩ ?_
  refine ydt ⟨[E7, E8, E18, E46, E61, E62], [B10, B11, B58, B59], H⟩ ?_
  refine ydl ⟨[E7, E8, E18, E46, E61, E62], [B60, B11, B58, B59], H⟩ ?_
  refine ydl ⟨[E7, E8, E18, E46, E61, E62], [B60, (13, (m0_ref03_Mem b22)), B58, B59], H⟩ ?_
  exact yde
  refine w_ret ?_
  obtain ⟨e0, e1⟩ := some2_inv hF
  subst e0
  subst e1
  exact yp (.tup [.agg (m1_ref04_Cpu b23), .agg (m0_ref03_Mem b22)])
noncomputable def law19_ItemCells_L1 (p0 : (List Int)) (r5 : Ptr) (a8 : Int) (H9 : Heap) : Option ((Int × Heap) ⊕ ((Heap) ⊕ (Heap))) :=
  if (decide (a8 < (if 12 < (p0.length : Int) then 12 else (p0.length : Int)))) = true then (bind2 (item_Gen_Address H9 r5 (T_scope_Object.mk ByteArray.empty 3 0 0 (IntKind.wrap .i32 (IntKind.wrap .i64 (4 * a8))) 0 false ([] : List T_api_Param))) fun H13 r11 =>
  if (r11 != 0) = true then (some (Sum.inr (Sum.inr H13)))
  else (bind1 (item_Gen_Wait H13 r5) fun H16 =>
  bind1 (gi p0 a8) fun x17 =>
  bind1 (item_Gen_Cell H16 r5 (IntKind.wrap .i64 (Int.tmod x17 3000))) fun H20 =>
  some (Sum.inl ((IntKind.wrap .i64 (a8 + 1)), H20))))
  else (some (Sum.inr (Sum.inl H9)))
noncomputable def law19_ItemCells_L2 (p0 : (List Int)) (r24 : (List Int)) (p1 : Int) (r41 : T_ref04_Cpu) (r42 : T_ref03_Mem) (a44 : Int) (a45 : Int) : Option ((Int × Int) ⊕ (((Arr 16 Int)) ⊕ (Bool))) :=
  if (decide (a45 < (if 12 < (p0.length : Int) then 12 else (p0.length : Int)))) = true then (bind1 (gi p0 a45) fun x47 =>
  if (decide ((IntKind.wrap .i64 (a44 + (if 4 > (IntKind.wrap .i64 (Int.tmod x47 3000)) then 4 else (IntKind.wrap .i64 (Int.tmod x47 3000))))) > (IntKind.wrap .i64 ((IntKind.wrap .i64 (IntKind.wrap .u32 (IntKind.wrap .i64 ((IntKind.wrap .i64 (4 * (r24.length : Int))) + 56)))) + (IntKind.wrap .i64 ((IntKind.wrap .i64 (Int.tmod p1 8000)) - (Int.tmod (IntKind.wrap .i64 (Int.tmod p1 8000)) 4))))))) = true then (some (Sum.inr (Sum.inr ((r41.State_ == 1) && (r41.Cause_ == 6)))))
  else (bind2 (ref03_Load r42 (IntKind.wrap .u32 (IntKind.wrap .i64 ((IntKind.wrap .i64 (4 * (r24.length : Int))) + (IntKind.wrap .i64 (4 * a45)))))) fun r51 r52 =>
  if (r51 != (IntKind.wrap .u32 a44)) = true then (some (Sum.inr (Sum.inr false)))
  else (some (Sum.inl ((IntKind.wrap .i64 (a44 + (if 4 > (IntKind.wrap .i64 (Int.tmod x47 3000)) then 4 else (IntKind.wrap .i64 (Int.tmod x47 3000))))), (IntKind.wrap .i64 (a45 + 1)))))))
  else (some (Sum.inr (Sum.inl (arrL [0, 0, 0, 0, 0, 0, 0, 0, 0, 0, 0, 0, 0, (IntKind.wrap .u32 ((IntKind.wrap .u32 ((IntKind.wrap .u32 (IntKind.wrap .i64 ((IntKind.wrap .i64 (4 * (r24.length : Int))) + 56))) + (IntKind.wrap .u32 (IntKind.wrap .i64 ((IntKind.wrap .i64 (Int.tmod p1 8000)) - (Int.tmod (IntKind.wrap .i64 (Int.tmod p1 8000)) 4)))))) + 128)), 0, (IntKind.wrap .u32 ((IntKind.wrap .u32 ((IntKind.wrap .u32 (IntKind.wrap .i64 ((IntKind.wrap .i64 (4 * (r24.length : Int))) + 56))) + (IntKind.wrap .u32 (IntKind.wrap .i64 ((IntKind.wrap .i64 (Int.tmod p1 8000)) - (Int.tmod (IntKind.wrap .i64 (Int.tmod p1 8000)) 4)))))) + 128))] : Arr 16 Int))))
noncomputable def law19_ItemCells (H : Heap) (p0 : (List Int)) (p1 : Int) : Option (Heap × Bool) :=
  bind2 (law19_awake H) fun H3 r1 =>
  if (!r1) = true then (some (H3, false))
  else (bind2 (law19_begun H3) fun H7 r5 =>
  bind1 (loopO (fun (x : (Int × Heap)) => law19_ItemCells_L1 p0 r5 x.1 x.2) (0, H7)) (sum2 (fun H23 =>
  bind3 (law19_ended H23 r5 48) fun H27 r24 r25 =>
  if (!r25) = true then (some (H27, false))
  else (bind1 (mks 4 14 14 0) fun v29 =>
  bind1 (gi v29 12) fun x31 =>
  bind1 (si v29 12 (IntKind.wrap .u32 (IntKind.wrap .i64 ((IntKind.wrap .i64 (4 * (r24.length : Int))) + 56)))) fun v33 =>
  bind1 (gi v33 13) fun x35 =>
  bind1 (si v33 13 (IntKind.wrap .u32 ((IntKind.wrap .u32 (IntKind.wrap .i64 ((IntKind.wrap .i64 (4 * (r24.length : Int))) + 56))) + (IntKind.wrap .u32 (IntKind.wrap .i64 ((IntKind.wrap .i64 (Int.tmod p1 8000)) - (Int.tmod (IntKind.wrap .i64 (Int.tmod p1 8000)) 4))))))) fun v37 =>
  bind1 (mks 4 32 32 0) fun v39 =>
  bind2 (ref19_Run r24 v37 (IntKind.wrap .i64 ((IntKind.wrap .i64 (Int.tmod p1 8000)) - (Int.tmod (IntKind.wrap .i64 (Int.tmod p1 8000)) 4))) v39 (arrL [0, 0, 0, 0, 0, 0, 0, 0, 0, 0, 0, 0, 0, (IntKind.wrap .u32 ((IntKind.wrap .u32 ((IntKind.wrap .u32 (IntKind.wrap .i64 ((IntKind.wrap .i64 (4 * (r24.length : Int))) + 56))) + (IntKind.wrap .u32 (IntKind.wrap .i64 ((IntKind.wrap .i64 (Int.tmod p1 8000)) - (Int.tmod (IntKind.wrap .i64 (Int.tmod p1 8000)) 4)))))) + 128)), 0, (IntKind.wrap .u32 ((IntKind.wrap .u32 ((IntKind.wrap .u32 (IntKind.wrap .i64 ((IntKind.wrap .i64 (4 * (r24.length : Int))) + 56))) + (IntKind.wrap .u32 (IntKind.wrap .i64 ((IntKind.wrap .i64 (Int.tmod p1 8000)) - (Int.tmod (IntKind.wrap .i64 (Int.tmod p1 8000)) 4)))))) + 128))] : Arr 16 Int) 100000) fun r41 r42 =>
  bind1 (loopO (fun (x : (Int × Int)) => law19_ItemCells_L2 p0 r24 p1 r41 r42 x.1 x.2) ((IntKind.wrap .i64 (IntKind.wrap .u32 (IntKind.wrap .i64 ((IntKind.wrap .i64 (4 * (r24.length : Int))) + 56)))), 0)) (sum2 (fun b57 =>
  some (H27, ((r41.State_ == 1) && ((r41.Cause_ == 0) && ((r41.R_.g 15) == (b57.g 15)))))) (fun b60 =>
  some (H27, b60))))) (fun H61 =>
  some (H61, false))))
theorem ok_law19_ItemCells (H : Heap) {p0 : (List Int)} {p1 : Int} {ra : Bool} {Hr : Heap} (hF : law19_ItemCells H p0 p1 = some (Hr, ra)) : evS X 9 [.one .ro (.sl 1 (List.map (eI .u16) p0)), .one .top (.int .u16 p1)] H = some (.one .top (.bool ra), Hr) := by
  let E1 : EN := (0, .one .ro (.sl 1 (List.map (eI .u16) p0)))
  let E2 : EN := (1, .one .top (.int .u16 p1))
  let E3 : EN := (4, vF)
  let E5 : EN := (6, vi (if 12 < (p0.length : Int) then 12 else (p0.length : Int)))
  let E6 : EN := (25, .one .ro (.sl 1 (List.map (eI .u16) p0)))
  let E14 : EN := (43, .one .ro (.sl 1 (List.map (eI .u16) p0)))
  let E23 : EN := (11, vi (IntKind.wrap .i64 ((IntKind.wrap .i64 (Int.tmod p1 8000)) - (Int.tmod (IntKind.wrap .i64 (Int.tmod p1 8000)) 4))))
  let E32 : EN := (74, vi (IntKind.wrap .i64 ((IntKind.wrap .i64 (Int.tmod p1 8000)) - (Int.tmod (IntKind.wrap .i64 (Int.tmod p1 8000)) 4))))
  let E33 : EN := (75, vu (IntKind.wrap .u32 (IntKind.wrap .i64 ((IntKind.wrap .i64 (Int.tmod p1 8000)) - (Int.tmod (IntKind.wrap .i64 (Int.tmod p1 8000)) 4)))))
  let E35 : EN := (77, .one .top (.el (.tmp 10) (Int.toNat 12) 0))
  let E37 : EN := (78, .one .top (.el (.tmp 10) (Int.toNat 13) 0))
  let E38 : EN := (13, vl 13 0)
  let B39 : EB := (13, (List.replicate 16 (.top, .int .u32 0)))
  let E42 : EN := (15, vl 15 0)
  let E43 : EN := (16, vl 16 0)
  let E48 : EN := (92, vi (IntKind.wrap .i64 ((IntKind.wrap .i64 (Int.tmod p1 8000)) - (Int.tmod (IntKind.wrap .i64 (Int.tmod p1 8000)) 4))))
  let E56 : EN := (105, .one .ro (.sl 1 (List.map (eI .u16) p0)))
  let E59 : EN := (120, vl 15 19)
  let E72 : EN := (147, vl 15 19)
  let E74 : EN := (149, vT)
  let E75 : EN := (150, vT)
  let E76 : EN := (151, vl 15 18)
  let S78 : St := ⟨[E1, E2], [], H⟩
  refine yf Try.func9 false S78 ?_
  unfold law19_ItemCells at hF
  refine ysg S78 ?_
  refine w_seq ?_
  refine w_seq ?_
  obtain ⟨H3, r1, c2, hF⟩ := bind2_inv hF
  refine w_regO ⟨[E1, E2, (23, vb (!r1))], [], H3⟩ ?_ ?_
  refine o_one ⟨[E1, E2, (22, vb r1)], [], H3⟩ (yc (some 22) false false S78 (ok_law19_awake H c2)) ?_
  refine yr 1 ⟨[E1, E2, (22, vb r1), (23, vb (!r1))], [], H3⟩ ?_
  exact ye
  rcases if_inv hF with ⟨h4, hF⟩ | ⟨h4, hF⟩
  refine yT h4 ⟨[], [], H3⟩ ?_
  refine ysg ⟨[E3], [], H3⟩ ?_
  refine w_ret ?_
  obtain ⟨e0, e1⟩ := some2_inv hF
  subst e0
  subst e1
  exact yi (vF)
  refine yF h4 ⟨[E1, E2], [], H3⟩ ?_
  refine w_skip ?_
  refine w_seq ?_
  obtain ⟨H7, r5, c6, hF⟩ := bind2_inv hF
  let E4 : Ptr → EN := fun z0 => (5, vp z0)
  let E8 : Ptr → EN := fun z0 => (33, vp z0)
  let E13 : Ptr → EN := fun z0 => (42, vp z0)
  let E21 : Ptr → EN := fun z0 => (51, vp z0)
  let S79 : Ptr → St := fun z0 => ⟨[E1, E2, (E4 z0), E6], [], H7⟩
  refine w_regO ⟨[E1, E2, (E4 r5)], [], H7⟩ ?_ ?_
  refine o_one ⟨[E1, E2, (24, vp r5)], [], H7⟩ (st_call (d := (some 24)) (fz := false) (pure := false) (own := false) (⟨[E1, E2], [], H3⟩ : St) (ok_law19_begun H3 c6) (by generalize r5 = qp0; cases qp0 <;> kernel_rfl) (by generalize r5 = qp0; cases qp0 <;> kernel_rfl)) ?_
  refine yr 1 ⟨[E1, E2, (E4 r5), (24, vp r5)], [], H7⟩ ?_ (h := (by generalize r5 = qp0; cases qp0 <;> kernel_rfl))
  exact ye
  refine yso ⟨[E1, E2, (E4 r5), E5], [], H7⟩ ?_ ?_
  refine yr 1 (S79 r5) ?_ (h := (by generalize r5 = qp0; cases qp0 <;> kernel_rfl))
  refine o_one ⟨[E1, E2, (E4 r5), E6, (26, vi (p0.length : Int))], [], H7⟩ (st_len (S79 r5) p0 (eI .u16) (some 26) (by generalize r5 = qp0; cases qp0 <;> kernel_rfl) (by generalize r5 = qp0; cases qp0 <;> kernel_rfl)) ?_
  refine yr 2 ⟨[E1, E2, (E4 r5), E5, E6, (26, vi (p0.length : Int)), (27, vi (if 12 < (p0.length : Int) then 12 else (p0.length : Int)))], [], H7⟩ ?_ (h := (by generalize r5 = qp0; cases qp0 <;> kernel_rfl))
  exact ye
  refine w_seq ?_
  refine ysg ⟨[E1, E2, (E4 r5), E5, (7, vi 0)], [], H7⟩ ?_ (h := (by generalize r5 = qp0; cases qp0 <;> kernel_rfl))
  refine w_block ?_
  obtain ⟨r21, hL22, hF⟩ := bind1_inv hF
  refine w_loop (fun (x : (Int × Heap)) => (⟨[E1, E2, (E4 r5), E5, (7, vi x.1)], [], x.2⟩ : St)) (Sum.elim (fun (y : (Heap)) => ((.exit 0, (⟨[E1, E2, (E4 r5), E5], [], y⟩ : St)) : Ex × St)) (fun (y : (Heap)) => ((.ret, (⟨[E3], [], y⟩ : St)) : Ex × St))) hL22 (by kernel_rfl) ?_ ?_
  rintro ⟨a8, H9⟩ o hF
  replace hF : law19_ItemCells_L1 p0 r5 a8 H9 = some o := hF
  let E7 : EN := (7, vi a8)
  let E9 : EN := (34, vi a8)
  let E10 : EN := (35, vi (IntKind.wrap .i64 (4 * a8)))
  let E11 : EN := (36, .one .top (.int .i32 (IntKind.wrap .i32 (IntKind.wrap .i64 (4 * a8)))))
  let E12 : EN := (37, .agg [(.top, .str ByteArray.empty), (.top, .int .i64 3), (.top, .int .i64 0), (.top, .int .i64 0), (.top, .int .i32 (IntKind.wrap .i32 (IntKind.wrap .i64 (4 * a8)))), (.top, .int .i64 0), (.top, .bool false), (.top, .junk)])
  let E15 : EN := (44, vi a8)
  unfold law19_ItemCells_L1 at hF
  refine w_seq ?_
  refine ysg ⟨[E1, E2, (E4 r5), E5, E7, (30, vb (decide (a8 < (if 12 < (p0.length : Int) then 12 else (p0.length : Int)))))], [], H9⟩ ?_ (h := (by generalize r5 = qp0; cases qp0 <;> kernel_rfl))
  rcases if_inv hF with ⟨h10, hF⟩ | ⟨h10, hF⟩
  refine yT h10 ⟨[E1, E2, (E4 r5), E5, E7], [], H9⟩ ?_
  refine w_skip ?_
  refine w_seq ?_
  refine w_block ?_
  refine w_seq ?_
  refine w_seq ?_
  obtain ⟨H13, r11, c12, hF⟩ := bind2_inv hF
  let S80 : Ptr → St := fun z0 => ⟨[E1, E2, (E4 z0), E5, E7, (40, vp z0)], [], H13⟩
  refine w_regO ⟨[E1, E2, (E4 r5), E5, E7, (39, vb (r11 != 0))], [], H13⟩ ?_ ?_
  refine yr 5 ⟨[E1, E2, (E4 r5), E5, E7, (E8 r5), E9, E10, E11, (37, .agg [(.top, .str ByteArray.empty), (.top, .int .i64 3), (.top, .int .i64 0), (.top, .int .i64 0), (.top, .int .i32 (IntKind.wrap .i32 (IntKind.wrap .i64 (4 * a8)))), (.top, .int .i64 0), (.top, .bool false), ((.own 1), .sl 2 (List.map e_api_Param ([] : List T_api_Param)))])], [], H9⟩ ?_ (h := (by generalize r5 = qp0; cases qp0 <;> kernel_rfl))
  refine o_one ⟨[E1, E2, (E4 r5), E5, E7, (E8 r5), E9, E10, E11, E12, (38, vi r11)], [], H13⟩ (st_call (d := (some 38)) (fz := false) (pure := false) (own := true) (⟨[E1, E2, (E4 r5), E5, E7, (E8 r5), E9, E10, E11, E12], [], H9⟩ : St) (ok_item_Gen_Address H9 c12) (by generalize r5 = qp0; cases qp0 <;> kernel_rfl) (by generalize r5 = qp0; cases qp0 <;> kernel_rfl)) ?_
  refine yr 1 ⟨[E1, E2, (E4 r5), E5, E7, (E8 r5), E9, E10, E11, E12, (38, vi r11), (39, vb (r11 != 0))], [], H13⟩ ?_ (h := (by generalize r5 = qp0; cases qp0 <;> kernel_rfl))
  exact ye
  rcases if_inv hF with ⟨h14, hF⟩ | ⟨h14, hF⟩
  refine yT h14 ⟨[], [], H13⟩ ?_
  refine ysg ⟨[E3], [], H13⟩ ?_
  refine w_ret ?_
  cases hF
  exact ⟨_, rfl, (by kernel_rfl)⟩
  refine yF h14 ⟨[E1, E2, (E4 r5), E5, E7], [], H13⟩ ?_
  refine w_skip ?_
  refine w_seq ?_
  obtain ⟨H16, c15, hF⟩ := bind1_inv hF
  let S81 : Ptr → St := fun z0 => ⟨[E1, E2, (E4 z0), E5, E7, (E13 z0), E14, E15], [], H16⟩
  refine w_regO ⟨[E1, E2, (E4 r5), E5, E7], [], H16⟩ ?_ ?_
  refine yr 1 (S80 r5) ?_ (h := (by generalize r5 = qp0; cases qp0 <;> kernel_rfl))
  refine o_one ⟨[E1, E2, (E4 r5), E5, E7, (40, vp r5), (41, vN)], [], H16⟩ (st_call (d := (some 41)) (fz := false) (pure := false) (own := false) (S80 r5) (ok_item_Gen_Wait H13 c15) (by generalize r5 = qp0; cases qp0 <;> kernel_rfl) (by generalize r5 = qp0; cases qp0 <;> kernel_rfl)) ?_
  exact ye
  obtain ⟨x17, h18, hF⟩ := bind1_inv hF
  let E16 : EN := (45, .one .top (.rd .ro .ro [.int .u16 x17] 0))
  let E17 : EN := (46, .one .top (.int .u16 x17))
  let E18 : EN := (47, .one .top (.int .u16 (Int.tmod x17 3000)))
  let E19 : EN := (48, vi (IntKind.wrap .i64 (Int.tmod x17 3000)))
  let S82 : Ptr → St := fun z0 => ⟨[E1, E2, (E4 z0), E5, E7, (E13 z0), E14, E15, E16, E17, E18, E19], [], H16⟩
  obtain ⟨H20, c19, hF⟩ := bind1_inv hF
  refine w_regO ⟨[E1, E2, (E4 r5), E5, E7], [], H20⟩ ?_ ?_
  refine yr 3 (S81 r5) ?_ (h := (by generalize r5 = qp0; cases qp0 <;> kernel_rfl))
  refine o_one ⟨[E1, E2, (E4 r5), E5, E7, (E13 r5), E14, E15, E16], [], H16⟩ (st_ix (X := X) (S81 r5) 80 56 1 h18 (eI .u16) .ro (some 45) (by generalize r5 = qp0; cases qp0 <;> kernel_rfl) (by generalize r5 = qp0; cases qp0 <;> kernel_rfl) (by generalize r5 = qp0; cases qp0 <;> kernel_rfl) (by generalize r5 = qp0; cases qp0 <;> kernel_rfl)) ?_
  refine yr 3 (S82 r5) ?_ (h := (by generalize r5 = qp0; cases qp0 <;> kernel_rfl))
  refine o_one ⟨[E1, E2, (E4 r5), E5, E7, (E13 r5), E14, E15, E16, E17, E18, E19, (49, vN)], [], H20⟩ (st_call (d := (some 49)) (fz := false) (pure := false) (own := false) (S82 r5) (ok_item_Gen_Cell H16 c19) (by generalize r5 = qp0; cases qp0 <;> kernel_rfl) (by generalize r5 = qp0; cases qp0 <;> kernel_rfl)) ?_
  exact ye
  refine w_reg ⟨[E1, E2, (E4 r5), E5, (7, vi (IntKind.wrap .i64 (a8 + 1)))], [], H20⟩ (by generalize r5 = qp0; cases qp0 <;> kernel_rfl) ?_
  cases hF
  exact ⟨_, rfl, (by kernel_rfl)⟩
  refine yF h10 ⟨[E1, E2, (E4 r5), E5], [], H9⟩ ?_
  refine w_exit ?_
  cases hF
  exact ⟨_, rfl, (by kernel_rfl)⟩
  rcases sum2_inv hF with ⟨r21', rfl, hF⟩ | ⟨r21', rfl, hF⟩
  obtain ⟨H23, hy⟩ : ∃ y, y = r21' := ⟨_, rfl⟩
  subst hy
  let S83 : Ptr → St := fun z0 => ⟨[E1, E2, (E4 z0), E5, (E21 z0)], [], H23⟩
  refine w_oe (i := 0) (s := (⟨[E1, E2, (E4 r5), E5], [], H23⟩ : St)) (by kernel_rfl) ?_
  refine e_here ?_
  refine w_seq ?_
  obtain ⟨H27, r24, r25, c26, hF⟩ := bind3_inv hF
  let E20 : EN := (8, .one (.own 1) (.sl 1 (List.map (eI .u32) r24)))
  let E24 : EN := (12, vu (IntKind.wrap .u32 (IntKind.wrap .i64 ((IntKind.wrap .i64 (4 * (r24.length : Int))) + 56))))
  let E25 : EN := (65, .one .bl (.sl 1 (List.map (eI .u32) r24)))
  let E26 : EN := (66, vi (r24.length : Int))
  let E30 : EN := (72, vu (IntKind.wrap .u32 (IntKind.wrap .i64 ((IntKind.wrap .i64 (4 * (r24.length : Int))) + 56))))
  let E31 : EN := (73, vu (IntKind.wrap .u32 (IntKind.wrap .i64 ((IntKind.wrap .i64 (4 * (r24.length : Int))) + 56))))
  let E34 : EN := (76, vu (IntKind.wrap .u32 ((IntKind.wrap .u32 (IntKind.wrap .i64 ((IntKind.wrap .i64 (4 * (r24.length : Int))) + 56))) + (IntKind.wrap .u32 (IntKind.wrap .i64 ((IntKind.wrap .i64 (Int.tmod p1 8000)) - (Int.tmod (IntKind.wrap .i64 (Int.tmod p1 8000)) 4)))))))
  let B41 : EB := (13, (List.replicate 13 (.top, .int .u32 0) ++ [(.top, .int .u32 (IntKind.wrap .u32 ((IntKind.wrap .u32 ((IntKind.wrap .u32 (IntKind.wrap .i64 ((IntKind.wrap .i64 (4 * (r24.length : Int))) + 56))) + (IntKind.wrap .u32 (IntKind.wrap .i64 ((IntKind.wrap .i64 (Int.tmod p1 8000)) - (Int.tmod (IntKind.wrap .i64 (Int.tmod p1 8000)) 4)))))) + 128))), (.top, .int .u32 0), (.top, .int .u32 (IntKind.wrap .u32 ((IntKind.wrap .u32 ((IntKind.wrap .u32 (IntKind.wrap .i64 ((IntKind.wrap .i64 (4 * (r24.length : Int))) + 56))) + (IntKind.wrap .u32 (IntKind.wrap .i64 ((IntKind.wrap .i64 (Int.tmod p1 8000)) - (Int.tmod (IntKind.wrap .i64 (Int.tmod p1 8000)) 4)))))) + 128)))]))
  let E46 : EN := (90, .one .bl (.sl 1 (List.map (eI .u32) r24)))
  let E50 : EN := (94, .agg (List.replicate 13 (.top, .int .u32 0) ++ [(.top, .int .u32 (IntKind.wrap .u32 ((IntKind.wrap .u32 ((IntKind.wrap .u32 (IntKind.wrap .i64 ((IntKind.wrap .i64 (4 * (r24.length : Int))) + 56))) + (IntKind.wrap .u32 (IntKind.wrap .i64 ((IntKind.wrap .i64 (Int.tmod p1 8000)) - (Int.tmod (IntKind.wrap .i64 (Int.tmod p1 8000)) 4)))))) + 128))), (.top, .int .u32 0), (.top, .int .u32 (IntKind.wrap .u32 ((IntKind.wrap .u32 ((IntKind.wrap .u32 (IntKind.wrap .i64 ((IntKind.wrap .i64 (4 * (r24.length : Int))) + 56))) + (IntKind.wrap .u32 (IntKind.wrap .i64 ((IntKind.wrap .i64 (Int.tmod p1 8000)) - (Int.tmod (IntKind.wrap .i64 (Int.tmod p1 8000)) 4)))))) + 128)))]))
  let E52 : EN := (17, vi (IntKind.wrap .i64 (IntKind.wrap .u32 (IntKind.wrap .i64 ((IntKind.wrap .i64 (4 * (r24.length : Int))) + 56)))))
  let E62 : EN := (130, .one .bl (.sl 1 (List.map (eI .u32) r24)))
  let E63 : EN := (131, vi (r24.length : Int))
  let E64 : EN := (132, vi (IntKind.wrap .i64 (4 * (r24.length : Int))))
  let S84 : St := ⟨[E1, E2, E5, E20], [], H27⟩
  refine w_regO ⟨[E1, E2, E5, E20, (9, vb r25)], [], H27⟩ ?_ ?_
  refine yr 1 (S83 r5) ?_ (h := (by generalize r5 = qp0; cases qp0 <;> kernel_rfl))
  refine o_one ⟨[E1, E2, (E4 r5), E5, (E21 r5), (52, .tup [.one (.own 1) (.sl 1 (List.map (eI .u32) r24)), vb r25])], [], H27⟩ (st_call (d := (some 52)) (fz := false) (pure := false) (own := false) (S83 r5) (ok_law19_ended H23 c26) (by generalize r5 = qp0; cases qp0 <;> kernel_rfl) (by generalize r5 = qp0; cases qp0 <;> kernel_rfl)) ?_
  refine yr 5 ⟨[E1, E2, (E4 r5), E5, E20, (9, vb r25), (50, .tup [.one .top .junk, vb r25]), (E21 r5), (52, .tup [.one .top .junk, vb r25]), (53, .one .top .junk), (54, vb r25)], [], H27⟩ ?_ (h := (by generalize r5 = qp0; cases qp0 <;> kernel_rfl))
  exact ye
  refine w_seq ?_
  refine ysg ⟨[E1, E2, E5, E20, (56, vb (!r25))], [], H27⟩ ?_
  rcases if_inv hF with ⟨h28, hF⟩ | ⟨h28, hF⟩
  refine yT h28 ⟨[], [], H27⟩ ?_
  refine ysg ⟨[E3], [], H27⟩ ?_
  refine w_ret ?_
  obtain ⟨e0, e1⟩ := some2_inv hF
  subst e0
  subst e1
  exact yi (vF)
  refine yF h28 S84 ?_
  refine w_skip ?_
  refine w_seq ?_
  obtain ⟨v29, h30, hF⟩ := bind1_inv hF
  let E22 : EN := (10, .one (.own 1) (.sl 1 (List.map (eI .u32) v29)))
  let E28 : EN := (70, .one .top (.at_ (.tmp 10) 0 ((List.map (eI .u32) v29).length)))
  let E29 : EN := (71, .one .top (.at_ (.tmp 10) 0 ((List.map (eI .u32) v29).length)))
  let S85 : St := ⟨[E1, E5, E20, E22, E23, E25], [], H27⟩
  let S86 : St := ⟨[E1, E5, E20, E22, E23, E24, E28, E29, E30, E31, E32, E33, E34], [], H27⟩
  let S87 : St := ⟨[E1, E5, E20, E22, E23, E24, E28, E29, E30, E31, E32, E33, E34, E35], [], H27⟩
  refine w_regO ⟨[E1, E2, E5, E20, E22], [], H27⟩ ?_ ?_
  refine o_one ⟨[E1, E2, E5, E20, (57, .one (.own 1) (.sl 1 (List.map (eI .u32) v29)))], [], H27⟩ (st_mk (X := X) S84 4 h30 42 35 1 [(.top, .int .u32 0)] (eI .u32) 0 (.i64) (.i64) (some 57) (by kernel_rfl) (by kernel_rfl) (by kernel_rfl) (by kernel_rfl) (by kernel_rfl) (by kernel_rfl) (by kernel_rfl) (by kernel_rfl) (by kernel_rfl) (by kernel_rfl)) ?_
  refine yr 1 ⟨[E1, E2, E5, E20, E22, (57, .one .top .junk)], [], H27⟩ ?_
  exact ye
  refine ysg ⟨[E1, E5, E20, E22, (11, vi (IntKind.wrap .i64 (Int.tmod p1 8000)))], [], H27⟩ ?_
  refine ysg ⟨[E1, E5, E20, E22, E23], [], H27⟩ ?_
  refine yso ⟨[E1, E5, E20, E22, E23, E24], [], H27⟩ ?_ ?_
  refine yr 1 S85 ?_
  refine o_one ⟨[E1, E5, E20, E22, E23, E25, E26], [], H27⟩ (yl S85 r24 (eI .u32) (some 66)) ?_
  refine yr 4 ⟨[E1, E5, E20, E22, E23, E24, E25, E26, (67, vi (IntKind.wrap .i64 (4 * (r24.length : Int)))), (68, vi (IntKind.wrap .i64 ((IntKind.wrap .i64 (4 * (r24.length : Int))) + 56))), (69, vu (IntKind.wrap .u32 (IntKind.wrap .i64 ((IntKind.wrap .i64 (4 * (r24.length : Int))) + 56))))], [], H27⟩ ?_
  exact ye
  refine w_seq ?_
  obtain ⟨x31, h32, hF⟩ := bind1_inv hF
  obtain ⟨v33, h34, hF⟩ := bind1_inv hF
  let E36 : EN := (10, .one (.own 1) (.sl 1 (List.map (eI .u32) v33)))
  let S88 : St := ⟨[E1, E5, E20, E36, E23, E24, E28, E29, E30, E31, E32, E33, E34, E35], [], H27⟩
  let S89 : St := ⟨[E1, E5, E20, E36, E23, E24, E28, E29, E30, E31, E32, E33, E34, E35, E37], [], H27⟩
  obtain ⟨x35, h36, hF⟩ := bind1_inv hF
  obtain ⟨v37, h38, hF⟩ := bind1_inv hF
  let E27 : EN := (10, .one (.own 1) (.sl 1 (List.map (eI .u32) v37)))
  let E47 : EN := (91, .one .bl (.sl 1 (List.map (eI .u32) v37)))
  let S90 : St := ⟨[E1, E5, E20, E27, E23, E24, E28, E29, E30, E31, E32, E33, E34, E35, E37], [], H27⟩
  let S91 : St := ⟨[E1, E5, E20, E27, E23, E24, E38], [B39], H27⟩
  refine w_regO ⟨[E1, E5, E20, E27, E23, E24], [], H27⟩ ?_ ?_
  refine yr 7 S86 ?_
  refine o_one S87 (st_ixA (X := X) S86 42 35 1 h32 (eI .u32) (.tmp 10) 0 (List.map (eI .u32) v29).length 0 (some 77) (by kernel_rfl) (by kernel_rfl) (by kernel_rfl) (by kernel_rfl) rfl (List.length_map _) (by kernel_rfl)) ?_
  refine o_one S88 (st_stE (X := X) S87 S88 ⟨false, []⟩ 35 (.tmp 10) (Int.toNat 12) 0 1 0 (List.map (eI .u32) v29) [.int .u32 x31] ((eI .u32) (IntKind.wrap .u32 (IntKind.wrap .i64 ((IntKind.wrap .i64 (4 * (r24.length : Int))) + 56)))) (List.map (eI .u32) v33) 1 (vu (IntKind.wrap .u32 (IntKind.wrap .i64 ((IntKind.wrap .i64 (4 * (r24.length : Int))) + 56)))) (by kernel_rfl) (by kernel_rfl) (by kernel_rfl) (by kernel_rfl) (by kernel_rfl) (by kernel_rfl) (el_at h32) (by kernel_rfl) (by kernel_rfl) (el_put h34) (by kernel_rfl) (by kernel_rfl)) ?_
  refine o_one S89 (st_ixA (X := X) S88 42 35 1 h36 (eI .u32) (.tmp 10) 0 (List.map (eI .u32) v29).length 0 (some 78) (by kernel_rfl) (by kernel_rfl) (by kernel_rfl) (by kernel_rfl) rfl (Eq.trans (List.length_map _) (si_len h34)) (by kernel_rfl)) ?_
  refine o_one S90 (st_stE (X := X) S89 S90 ⟨false, []⟩ 35 (.tmp 10) (Int.toNat 13) 0 1 0 (List.map (eI .u32) v33) [.int .u32 x35] ((eI .u32) (IntKind.wrap .u32 ((IntKind.wrap .u32 (IntKind.wrap .i64 ((IntKind.wrap .i64 (4 * (r24.length : Int))) + 56))) + (IntKind.wrap .u32 (IntKind.wrap .i64 ((IntKind.wrap .i64 (Int.tmod p1 8000)) - (Int.tmod (IntKind.wrap .i64 (Int.tmod p1 8000)) 4))))))) (List.map (eI .u32) v37) 1 (vu (IntKind.wrap .u32 ((IntKind.wrap .u32 (IntKind.wrap .i64 ((IntKind.wrap .i64 (4 * (r24.length : Int))) + 56))) + (IntKind.wrap .u32 (IntKind.wrap .i64 ((IntKind.wrap .i64 (Int.tmod p1 8000)) - (Int.tmod (IntKind.wrap .i64 (Int.tmod p1 8000)) 4))))))) (by kernel_rfl) (by kernel_rfl) (by kernel_rfl) (by kernel_rfl) (by kernel_rfl) (by kernel_rfl) (el_at h36) (by kernel_rfl) (by kernel_rfl) (el_put h38) (by kernel_rfl) (by kernel_rfl)) ?_
  exact ye
  refine ysg S91 ?_
  refine w_seq ?_
  obtain ⟨v39, h40, hF⟩ := bind1_inv hF
  let E40 : EN := (14, .one (.own 1) (.sl 1 (List.map (eI .u32) v39)))
  let E49 : EN := (93, .one .bl (.sl 1 (List.map (eI .u32) v39)))
  let S92 : St := ⟨[E1, E5, E20, E27, E23, E24, E38, E40, E46, E47, E48, E49, E50], [B41], H27⟩
  refine w_regO ⟨[E1, E5, E20, E27, E23, E24, E38, E40], [B39], H27⟩ ?_ ?_
  refine o_one ⟨[E1, E5, E20, E27, E23, E24, E38, (79, .one (.own 1) (.sl 1 (List.map (eI .u32) v39)))], [B39], H27⟩ (st_mk (X := X) S91 4 h40 42 35 1 [(.top, .int .u32 0)] (eI .u32) 0 (.i64) (.i64) (some 79) (by kernel_rfl) (by kernel_rfl) (by kernel_rfl) (by kernel_rfl) (by kernel_rfl) (by kernel_rfl) (by kernel_rfl) (by kernel_rfl) (by kernel_rfl) (by kernel_rfl)) ?_
  refine yr 1 ⟨[E1, E5, E20, E27, E23, E24, E38, E40, (79, .one .top .junk)], [B39], H27⟩ ?_
  exact ye
  refine ysg ⟨[E1, E5, E20, E27, E23, E24, E38, E40], [(13, (List.replicate 15 (.top, .int .u32 0) ++ [(.top, .int .u32 (IntKind.wrap .u32 ((IntKind.wrap .u32 ((IntKind.wrap .u32 (IntKind.wrap .i64 ((IntKind.wrap .i64 (4 * (r24.length : Int))) + 56))) + (IntKind.wrap .u32 (IntKind.wrap .i64 ((IntKind.wrap .i64 (Int.tmod p1 8000)) - (Int.tmod (IntKind.wrap .i64 (Int.tmod p1 8000)) 4)))))) + 128)))]))], H27⟩ ?_
  refine ysg ⟨[E1, E5, E20, E27, E23, E24, E38, E40], [B41], H27⟩ ?_
  refine w_seq ?_
  obtain ⟨r41, r42, c43, hF⟩ := bind2_inv hF
  let B44 : EB := (15, (m1_ref04_Cpu r41))
  let B45 : EB := (16, (m0_ref03_Mem r42))
  let E51 : EN := (95, .tup [.agg (m1_ref04_Cpu r41), .agg (m0_ref03_Mem r42)])
  let E60 : EN := (121, vi r41.State_)
  let E61 : EN := (129, .agg (m0_ref03_Mem r42))
  let E73 : EN := (148, vi r41.State_)
  let E77 : EN := (152, vu r41.Cause_)
  refine w_regO ⟨[E1, E5, E20, E23, E24, E38, E42, E43], [B41, B44, B45], H27⟩ ?_ ?_
  refine yr 5 S92 ?_
  refine o_one ⟨[E1, E5, E20, E27, E23, E24, E38, E40, E46, E47, E48, E49, E50, E51], [B41], H27⟩ (yc (some 95) true false S92 (ok_ref19_Run_2 H27 c43)) ?_
  refine yr 7 ⟨[E1, E5, E20, E27, E23, E24, E38, E40, E42, E43, (89, .tup [.agg (m1_ref04_Cpu r41), .agg (m0_ref03_Mem r42)]), E46, E47, E48, E49, E50, E51, (96, .agg (m1_ref04_Cpu r41)), (97, .agg (m0_ref03_Mem r42))], [B41, B44, B45], H27⟩ ?_
  exact ye
  refine ysg ⟨[E1, E5, E20, E23, E24, E38, E42, E43, E52], [B41, B44, B45], H27⟩ ?_
  refine w_seq ?_
  refine ysg ⟨[E1, E5, E20, E23, E24, E38, E42, E43, E52, (18, vi 0)], [B41, B44, B45], H27⟩ ?_
  refine w_block ?_
  obtain ⟨r55, hL56, hF⟩ := bind1_inv hF
  refine w_loop (fun (x : (Int × Int)) => (⟨[E1, E5, E20, E23, E24, E38, E42, E43, (17, vi x.1), (18, vi x.2)], [B41, B44, B45], H27⟩ : St)) (Sum.elim (fun (y : ((Arr 16 Int))) => ((.exit 2, (⟨[E38, E42], [(13, (arM .u32 16 y)), B44], H27⟩ : St)) : Ex × St)) (fun (y : (Bool)) => ((.ret, (⟨[(4, vb y)], [], H27⟩ : St)) : Ex × St))) hL56 (by kernel_rfl) ?_ ?_
  rintro ⟨a44, a45⟩ o hF
  replace hF : law19_ItemCells_L2 p0 r24 p1 r41 r42 a44 a45 = some o := hF
  let E53 : EN := (17, vi a44)
  let E54 : EN := (18, vi a45)
  let E57 : EN := (106, vi a45)
  let E65 : EN := (133, vi a45)
  let E66 : EN := (134, vi (IntKind.wrap .i64 (4 * a45)))
  let E67 : EN := (135, vi (IntKind.wrap .i64 ((IntKind.wrap .i64 (4 * (r24.length : Int))) + (IntKind.wrap .i64 (4 * a45)))))
  let E68 : EN := (136, vu (IntKind.wrap .u32 (IntKind.wrap .i64 ((IntKind.wrap .i64 (4 * (r24.length : Int))) + (IntKind.wrap .i64 (4 * a45))))))
  let S94 : St := ⟨[E1, E5, E20, E23, E24, E38, E42, E43, E53, E54, E56, E57], [B41, B44, B45], H27⟩
  unfold law19_ItemCells_L2 at hF
  refine w_seq ?_
  refine ysg ⟨[E1, E5, E20, E23, E24, E38, E42, E43, E53, E54, (102, vb (decide (a45 < (if 12 < (p0.length : Int) then 12 else (p0.length : Int)))))], [B41, B44, B45], H27⟩ ?_
  rcases if_inv hF with ⟨h46, hF⟩ | ⟨h46, hF⟩
  refine yT h46 ⟨[E1, E5, E20, E23, E24, E38, E42, E43, E53, E54], [B41, B44, B45], H27⟩ ?_
  refine w_skip ?_
  refine w_seq ?_
  refine w_block ?_
  refine w_seq ?_
  obtain ⟨x47, h48, hF⟩ := bind1_inv hF
  let E55 : EN := (19, vi (if 4 > (IntKind.wrap .i64 (Int.tmod x47 3000)) then 4 else (IntKind.wrap .i64 (Int.tmod x47 3000))))
  let E58 : EN := (107, .one .top (.rd .ro .ro [.int .u16 x47] 0))
  let E70 : EN := (17, vi (IntKind.wrap .i64 (a44 + (if 4 > (IntKind.wrap .i64 (Int.tmod x47 3000)) then 4 else (IntKind.wrap .i64 (Int.tmod x47 3000))))))
  let S93 : St := ⟨[E1, E5, E20, E23, E24, E38, E42, E43, E53, E54, E55], [B41, B44, B45], H27⟩
  let S95 : St := ⟨[E1, E5, E20, E23, E24, E38, E42, E43, E53, E54, E55, E61, E62], [B41, B44, B45], H27⟩
  let S96 : St := ⟨[E1, E5, E20, E23, E24, E38, E42, E43, E53, E54, E55, E61, E62, E63, E64, E65, E66, E67, E68], [B41, B44, B45], H27⟩
  refine w_regO S93 ?_ ?_
  refine yr 2 S94 ?_
  refine o_one ⟨[E1, E5, E20, E23, E24, E38, E42, E43, E53, E54, E56, E57, E58], [B41, B44, B45], H27⟩ (st_ix (X := X) S94 80 56 1 h48 (eI .u16) .ro (some 107) (by kernel_rfl) (by kernel_rfl) (by kernel_rfl) (by kernel_rfl)) ?_
  refine yr 5 ⟨[E1, E5, E20, E23, E24, E38, E42, E43, E53, E54, E55, E56, E57, E58, (108, .one .top (.int .u16 x47)), (109, .one .top (.int .u16 (Int.tmod x47 3000))), (110, vi (IntKind.wrap .i64 (Int.tmod x47 3000))), (111, vi (if 4 > (IntKind.wrap .i64 (Int.tmod x47 3000)) then 4 else (IntKind.wrap .i64 (Int.tmod x47 3000))))], [B41, B44, B45], H27⟩ ?_
  exact ye
  refine w_seq ?_
  refine ysg ⟨[E1, E5, E20, E23, E24, E38, E42, E43, E53, E54, E55, (119, vb (decide ((IntKind.wrap .i64 (a44 + (if 4 > (IntKind.wrap .i64 (Int.tmod x47 3000)) then 4 else (IntKind.wrap .i64 (Int.tmod x47 3000))))) > (IntKind.wrap .i64 ((IntKind.wrap .i64 (IntKind.wrap .u32 (IntKind.wrap .i64 ((IntKind.wrap .i64 (4 * (r24.length : Int))) + 56)))) + (IntKind.wrap .i64 ((IntKind.wrap .i64 (Int.tmod p1 8000)) - (Int.tmod (IntKind.wrap .i64 (Int.tmod p1 8000)) 4))))))))], [B41, B44, B45], H27⟩ ?_
  rcases if_inv hF with ⟨h49, hF⟩ | ⟨h49, hF⟩
  refine yT h49 ⟨[E42], [B44], H27⟩ ?_
  refine yso ⟨[(4, vb ((r41.State_ == 1) && (r41.Cause_ == 6)))], [], H27⟩ ?_ ?_
  refine yr 4 ⟨[E42, E59, E60, (122, vb (r41.State_ == 1)), (123, vb (r41.State_ == 1))], [B44], H27⟩ ?_
  rcases bool_cases (r41.State_ == 1) with h50 | h50
  refine o_eq (congrArg (fun q => (⟨[E42, E59, E60, (122, vb q), (123, vb q)], [B44], H27⟩ : St)) h50) ?_
  refine yr 5 ⟨[(4, vb (r41.Cause_ == 6)), E42, E59, E60, (122, vT), (123, vT), (124, vl 15 18), (125, vu r41.Cause_), (126, vb (r41.Cause_ == 6)), (127, vb (r41.Cause_ == 6))], [B44], H27⟩ ?_
  refine o_eq2 (congrArg (fun q0 => (⟨[(4, vb q0)], [], H27⟩ : St)) (show (r41.Cause_ == 6) = ((r41.State_ == 1) && (r41.Cause_ == 6)) by simp [h50])) ?_
  exact ye
  refine o_eq (congrArg (fun q => (⟨[E42, E59, E60, (122, vb q), (123, vb q)], [B44], H27⟩ : St)) h50) ?_
  refine yr 5 ⟨[E3, E42, E59, E60, (122, vF), (123, vF), (124, vN), (125, vN), (126, vN), (127, vF)], [B44], H27⟩ ?_
  refine o_eq2 (congrArg (fun q0 => (⟨[(4, vb q0)], [], H27⟩ : St)) (show false = ((r41.State_ == 1) && (r41.Cause_ == 6)) by simp [h50])) ?_
  exact ye
  refine w_ret ?_
  cases hF
  exact ⟨_, rfl, (by kernel_rfl)⟩
  refine yF h49 S93 ?_
  refine w_skip ?_
  refine w_seq ?_
  obtain ⟨r51, r52, c53, hF⟩ := bind2_inv hF
  let E69 : EN := (137, .tup [vu r51, vi r52])
  refine w_regO ⟨[E1, E5, E20, E23, E24, E38, E42, E43, E53, E54, E55, (20, vu r51)], [B41, B44, B45], H27⟩ ?_ ?_
  refine yr 2 S95 ?_
  refine o_one ⟨[E1, E5, E20, E23, E24, E38, E42, E43, E53, E54, E55, E61, E62, E63], [B41, B44, B45], H27⟩ (yl S95 r24 (eI .u32) (some 131)) ?_
  refine yr 5 S96 ?_
  refine o_one ⟨[E1, E5, E20, E23, E24, E38, E42, E43, E53, E54, E55, E61, E62, E63, E64, E65, E66, E67, E68, E69], [B41, B44, B45], H27⟩ (yc (some 137) true false S96 (ok_ref03_Load H27 c53)) ?_
  refine yr 5 ⟨[E1, E5, E20, E23, E24, E38, E42, E43, E53, E54, E55, (20, vu r51), (21, vi r52), (128, .tup [vu r51, vi r52]), E61, E62, E63, E64, E65, E66, E67, E68, E69, (138, vu r51), (139, vi r52)], [B41, B44, B45], H27⟩ ?_
  exact ye
  refine w_seq ?_
  refine ysg ⟨[E1, E5, E20, E23, E24, E38, E42, E43, E53, E54, E55, (143, vb (r51 != (IntKind.wrap .u32 a44)))], [B41, B44, B45], H27⟩ ?_
  rcases if_inv hF with ⟨h54, hF⟩ | ⟨h54, hF⟩
  refine yT h54 ⟨[], [], H27⟩ ?_
  refine ysg ⟨[E3], [], H27⟩ ?_
  refine w_ret ?_
  cases hF
  exact ⟨_, rfl, (by kernel_rfl)⟩
  refine yF h54 S93 ?_
  refine w_skip ?_
  refine yg ⟨[E1, E5, E20, E23, E24, E38, E42, E43, E70, E54], [B41, B44, B45], H27⟩ ?_
  refine yg ⟨[E1, E5, E20, E23, E24, E38, E42, E43, E70, (18, vi (IntKind.wrap .i64 (a45 + 1)))], [B41, B44, B45], H27⟩ ?_
  cases hF
  exact ⟨_, rfl, (by kernel_rfl)⟩
  refine yF h46 ⟨[E38, E42], [B41, B44], H27⟩ ?_
  refine w_exit ?_
  cases hF
  exact ⟨_, rfl, (by kernel_rfl)⟩
  rcases sum2_inv hF with ⟨r55', rfl, hF⟩ | ⟨r55', rfl, hF⟩
  obtain ⟨b57, hy⟩ : ∃ y, y = r55' := ⟨_, rfl⟩
  subst hy
  let B71 : EB := (13, (arM .u32 16 b57))
  refine w_oe (i := 2) (s := (⟨[E38, E42], [B71, B44], H27⟩ : St)) (by kernel_rfl) ?_
  refine e_here ?_
  refine yso ⟨[(4, vb ((r41.State_ == 1) && ((r41.Cause_ == 0) && ((r41.R_.g 15) == (b57.g 15)))))], [], H27⟩ ?_ ?_
  refine yr 4 ⟨[E38, E42, E72, E73, (149, vb (r41.State_ == 1)), (150, vb (r41.State_ == 1))], [B71, B44], H27⟩ ?_
  rcases bool_cases (r41.State_ == 1) with h58 | h58
  refine o_eq (congrArg (fun q => (⟨[E38, E42, E72, E73, (149, vb q), (150, vb q)], [B71, B44], H27⟩ : St)) h58) ?_
  refine yr 5 ⟨[E38, E42, E72, E73, E74, E75, E76, E77, (153, vb (r41.Cause_ == 0)), (154, vb (r41.Cause_ == 0)), (155, vb (r41.Cause_ == 0))], [B71, B44], H27⟩ ?_
  rcases bool_cases (r41.Cause_ == 0) with h59 | h59
  refine o_eq (congrArg (fun q => (⟨[E38, E42, E72, E73, E74, E75, E76, E77, (153, vb q), (154, vb q), (155, vb q)], [B71, B44], H27⟩ : St)) h59) ?_
  refine yr 8 ⟨[(4, vb ((r41.R_.g 15) == (b57.g 15))), E38, E42, E72, E73, E74, E75, E76, E77, (153, vT), (154, vT), (155, vT), (156, vl 15 0), (157, vl 15 15), (158, vu (r41.R_.g 15)), (159, vl 13 15), (160, vu (b57.g 15)), (161, vb ((r41.R_.g 15) == (b57.g 15))), (162, vb ((r41.R_.g 15) == (b57.g 15)))], [B71, B44], H27⟩ ?_
  refine o_eq2 (congrArg (fun q0 => (⟨[(4, vb q0)], [], H27⟩ : St)) (show ((r41.R_.g 15) == (b57.g 15)) = ((r41.State_ == 1) && ((r41.Cause_ == 0) && ((r41.R_.g 15) == (b57.g 15)))) by simp [h58, h59])) ?_
  exact ye
  refine o_eq (congrArg (fun q => (⟨[E38, E42, E72, E73, E74, E75, E76, E77, (153, vb q), (154, vb q), (155, vb q)], [B71, B44], H27⟩ : St)) h59) ?_
  refine yr 8 ⟨[E3, E38, E42, E72, E73, E74, E75, E76, E77, (153, vF), (154, vF), (155, vF), (156, vN), (157, vN), (158, vN), (159, vN), (160, vN), (161, vN), (162, vF)], [B71, B44], H27⟩ ?_
  refine o_eq2 (congrArg (fun q0 => (⟨[(4, vb q0)], [], H27⟩ : St)) (show false = ((r41.State_ == 1) && ((r41.Cause_ == 0) && ((r41.R_.g 15) == (b57.g 15)))) by simp [h58, h59])) ?_
  exact ye
  refine o_eq (congrArg (fun q => (⟨[E38, E42, E72, E73, (149, vb q), (150, vb q)], [B71, B44], H27⟩ : St)) h58) ?_
  refine yr 13 ⟨[E3, E38, E42, E72, E73, (149, vF), (150, vF), (151, vN), (152, vN), (153, vN), (154, vF), (155, vF), (156, vN), (157, vN), (158, vN), (159, vN), (160, vN), (161, vN), (162, vF)], [B71, B44], H27⟩ ?_
  refine o_eq2 (congrArg (fun q0 => (⟨[(4, vb q0)], [], H27⟩ : St)) (show false = ((r41.State_ == 1) && ((r41.Cause_ == 0) && ((r41.R_.g 15) == (b57.g 15)))) by simp [h58])) ?_
  exact ye
  refine w_ret ?_
  obtain ⟨e0, e1⟩ := some2_inv hF
  subst e0
  subst e1
  exact yi (vb ((r41.State_ == 1) && ((r41.Cause_ == 0) && ((r41.R_.g 15) == (b57.g 15)))))
  obtain ⟨b60, hy⟩ : ∃ y, y = r55' := ⟨_, rfl⟩
  subst hy
  refine w_or (s := (⟨[(4, vb b60)], [], H27⟩ : St)) (by kernel_rfl) ?_
  obtain ⟨e0, e1⟩ := some2_inv hF
  subst e0
  subst e1
  exact yi (vb b60)
  obtain ⟨H61, hy⟩ : ∃ y, y = r21' := ⟨_, rfl⟩
  subst hy
  refine w_or (s := (⟨[E3], [], H61⟩ : St)) (by kernel_rfl) ?_
  obtain ⟨e0, e1⟩ := some2_inv hF
  subst e0
  subst e1
  exact yi (vF)
end Go.Proofs.Abs
