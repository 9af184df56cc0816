/- The law ItemOuts: whatever the input, it answers true. No conditions. (Part ItemOutsF1 of its proof.) -/
import Derived.Test.YtjheniapmdcelaaItemOutsF0
set_option linter.unusedVariables false
set_option linter.unusedSimpArgs false
set_option linter.unusedSectionVars false
/- Printed by gen (walk.py). -/
namespace Go.Proofs.Abs
open Go Go.Proofs
set_option linter.unusedVariables false
set_option maxRecDepth 100000
set_option maxHeartbeats 0
noncomputable def item_Gen_Two_j2 (H10 : Heap) : Option (Heap × Int) :=
  some (H10, 0)
noncomputable def item_Gen_Two_j1 (p0 : Ptr) (H : Heap) (j1 : Bool) (j2 : Int) : Option (Heap × Int) :=
  (p0).bnd fun i3 o4 =>
  bind1 (get_item_Gen H i3 o4) fun x6 =>
  bind1 (emit_Code_Pop H x6.Code_ 1) fun H9 =>
  if j1 = true then (bind1 (get_item_Gen H9 i3 o4) fun x12 =>
  bind2 (emit_Code_Three H9 x12.Code_ j2 0 0 1) fun H16 r14 =>
  item_Gen_Two_j2 H16)
  else (bind1 (get_item_Gen H9 i3 o4) fun x17 =>
  bind2 (emit_Code_Three H9 x17.Code_ j2 0 1 0) fun H21 r19 =>
  item_Gen_Two_j2 H21)
noncomputable def item_Gen_Two_j3 (p0 : Ptr) (H : Heap) (j23 : Bool) (j24 : Int) : Option (Heap × Int) :=
  item_Gen_Two_j1 p0 H j23 j24
noncomputable def item_Gen_Two_j4 (p0 : Ptr) (H : Heap) (j26 : Bool) (j27 : Int) : Option (Heap × Int) :=
  item_Gen_Two_j3 p0 H j26 j27
noncomputable def item_Gen_Two_j5 (p0 : Ptr) (H : Heap) (j29 : Bool) (j30 : Int) : Option (Heap × Int) :=
  item_Gen_Two_j4 p0 H j29 j30
noncomputable def item_Gen_Two_j6 (p0 : Ptr) (H : Heap) (j32 : Bool) (j33 : Int) : Option (Heap × Int) :=
  item_Gen_Two_j5 p0 H j32 j33
noncomputable def item_Gen_Two_j7 (p0 : Ptr) (H : Heap) (j35 : Bool) (j36 : Int) : Option (Heap × Int) :=
  item_Gen_Two_j6 p0 H j35 j36
noncomputable def item_Gen_Two_j8 (p0 : Ptr) (H : Heap) (j38 : Bool) (j39 : Int) : Option (Heap × Int) :=
  item_Gen_Two_j7 p0 H j38 j39
noncomputable def item_Gen_Two_j9 (p0 : Ptr) (H : Heap) (j41 : Bool) (j42 : Int) : Option (Heap × Int) :=
  item_Gen_Two_j8 p0 H j41 j42
noncomputable def item_Gen_Two_j10 (p0 : Ptr) (H : Heap) (j44 : Bool) (j45 : Int) : Option (Heap × Int) :=
  item_Gen_Two_j9 p0 H j44 j45
noncomputable def item_Gen_Two_j11 (p0 : Ptr) (H : Heap) (j47 : Int) : Option (Heap × Int) :=
  item_Gen_Two_j10 p0 H true j47
noncomputable def item_Gen_Two (H : Heap) (p0 : Ptr) (p1 : ByteArray) : Option (Heap × Int) :=
  if (strEq p1 (ByteArray.mk #[43])) = true then (item_Gen_Two_j1 p0 H false 6)
  else (if (strEq p1 (ByteArray.mk #[45])) = true then (item_Gen_Two_j3 p0 H false 7)
  else (if (strEq p1 (ByteArray.mk #[42])) = true then (item_Gen_Two_j4 p0 H false 8)
  else (if (strEq p1 (ByteArray.mk #[68, 73, 86])) = true then (item_Gen_Two_j5 p0 H false 9)
  else (if (strEq p1 (ByteArray.mk #[77, 79, 68])) = true then (item_Gen_Two_j6 p0 H false 10)
  else (if (strEq p1 (ByteArray.mk #[61])) = true then (item_Gen_Two_j7 p0 H false 16)
  else (if (strEq p1 (ByteArray.mk #[35])) = true then (item_Gen_Two_j8 p0 H false 17)
  else (if (strEq p1 (ByteArray.mk #[60])) = true then (item_Gen_Two_j9 p0 H false 14)
  else (if (strEq p1 (ByteArray.mk #[60, 61])) = true then (item_Gen_Two_j10 p0 H false 15)
  else (if (strEq p1 (ByteArray.mk #[62])) = true then (item_Gen_Two_j11 p0 H 14)
  else (if (strEq p1 (ByteArray.mk #[62, 61])) = true then (item_Gen_Two_j11 p0 H 15)
  else (some (H, 110))))))))))))
theorem ok_item_Gen_Two (H : Heap) {p0 : Ptr} {p1 : ByteArray} {ra : Int} {Hr : Heap} (hF : item_Gen_Two H p0 p1 = some (Hr, ra)) : evS X 18 [.one .top (Ptr.av p0), .one .top (.str p1)] H = some (.one .top (.int .i64 ra), Hr) := by
  let E1 : Ptr → EN := fun z0 => (0, .one .top (Ptr.av z0))
  let E2 : EN := (1, .one .top (.str p1))
  let E3 : EN := (6, .one .top (.bool false))
  let E4 : EN := (7, .one .top (.str p1))
  let E19 : EN := (5, .one .top (.int .i64 14))
  let E20 : EN := (5, .one .top (.int .i64 15))
  let E21 : EN := (6, .one .top (.bool true))
  let S22 : Ptr → St := fun z0 => ⟨[(E1 z0), E2], [], H⟩
  let S23 : Ptr → St := fun z0 => ⟨[(E1 z0), E3, E4], [], H⟩
  let S27 : Ptr → St := fun z0 => ⟨[(E1 z0), E3], [], H⟩
  let S28 : Ptr → St := fun z0 => ⟨[(E1 z0), E4], [], H⟩
  refine w_fun Try.func18 rfl (by kernel_rfl) false (by kernel_rfl) (s0 := (S22 p0)) (by kernel_rfl) ?_
  unfold item_Gen_Two at hF
  refine w_seq ?_
  refine w_reg (S22 p0) (by generalize p0 = qp0; cases qp0 <;> kernel_rfl) ?_
  refine w_seq ?_
  refine w_reg ⟨[(E1 p0), E2, E3], [], H⟩ (by generalize p0 = qp0; cases qp0 <;> kernel_rfl) ?_
  refine w_seq ?_
  refine w_seq ?_
  refine w_reg (S23 p0) (by generalize p0 = qp0; cases qp0 <;> kernel_rfl) ?_
  refine w_block ?_
  refine w_seq ?_
  refine w_reg ⟨[(E1 p0), E3, E4, (8, .one .top (.bool (strEq p1 (ByteArray.mk #[43]))))], [], H⟩ (by generalize p0 = qp0; cases qp0 <;> kernel_rfl) ?_
  refine w_join (α := (Bool × Int)) (fun x => (⟨[(E1 p0), (5, .one .top (.int .i64 x.2)), (6, .one .top (.bool x.1))], [], H⟩ : St)) (fun x => item_Gen_Two_j1 p0 H x.1 x.2 = some (Hr, ra)) ?_ ?_
  rintro ⟨j1, j2⟩ hF
  replace hF : item_Gen_Two_j1 p0 H j1 j2 = some (Hr, ra) := hF
  let E6 : EN := (5, .one .top (.int .i64 j2))
  let E7 : EN := (6, .one .top (.bool j1))
  let E14 : EN := (40, .one .top (.int .i64 j2))
  let E18 : EN := (46, .one .top (.int .i64 j2))
  unfold item_Gen_Two_j1 at hF
  refine w_seq ?_
  obtain ⟨i3, o4, h5, hF⟩ := pbnd_inv hF
  let E5 : EN := (0, .one .top (.obj i3 o4))
  let E8 : EN := (30, .one .top (.obj i3 o4))
  let E9 : EN := (31, .one .top (.obj i3 o4))
  let E10 : EN := (32, .one .top (.obj i3 o4))
  let E11 : EN := (36, .one .top (.obj i3 o4))
  let E12 : EN := (37, .one .top (.obj i3 o4))
  let E13 : EN := (38, .one .top (.obj i3 o4))
  let E15 : EN := (42, .one .top (.obj i3 o4))
  let E16 : EN := (43, .one .top (.obj i3 o4))
  let E17 : EN := (44, .one .top (.obj i3 o4))
  let S24 : St := ⟨[E5, E6, E7, E8, E9, E10], [], H⟩
  obtain ⟨x6, V7, hF⟩ := bind1_inv hF
  replace V7 := hgetT_inv V7
  obtain ⟨H9, c8, hF⟩ := bind1_inv hF
  let S25 : St := ⟨[E5, E6, E11, E12, E13], [], H9⟩
  let S26 : St := ⟨[E5, E6, E15, E16, E17], [], H9⟩
  refine w_regO ⟨[E5, E6, E7], [], H9⟩ ?_ ?_
  refine o_run 1 ⟨[(E1 p0), E6, E7, (30, .one .top (Ptr.av p0))], [], H⟩ (by kernel_rfl) (by generalize p0 = qp0; cases qp0 <;> kernel_rfl) ?_
  refine o_eq (congrArg (fun q => (⟨[(0, .one .top (Ptr.av q)), E6, E7, (30, .one .top (Ptr.av q))], [], H⟩ : St)) h5) ?_
  refine o_run 1 ⟨[E5, E6, E7, E8, E9], [], H⟩ (by kernel_rfl) (by kernel_rfl) ?_
  refine o_run 1 S24 (by kernel_rfl) (by generalize x6.Code_ = qp0; generalize x6.Proc_.frame_ = qp1; cases qp0 <;> cases qp1 <;> kernel_rfl) ?_
  refine o_one ⟨[E5, E6, E7, E8, E9, E10, (33, .one .top (Ptr.av x6.Code_))], [], H⟩ (st_ld (X := X) S24 26 V7 0 1 false (.one .top (Ptr.av x6.Code_)) (some 33) (by kernel_rfl) (by kernel_rfl) (by kernel_rfl) (by kernel_rfl) (by kernel_rfl) (by generalize x6.Code_ = qp0; generalize x6.Proc_.frame_ = qp1; cases qp0 <;> cases qp1 <;> kernel_rfl)) ?_
  refine o_one ⟨[E5, E6, E7, E8, E9, E10, (33, .one .top (Ptr.av x6.Code_)), (34, .tup [])], [], H9⟩ (st_call (d := (some 34)) (fz := false) (pure := false) (own := false) (⟨[E5, E6, E7, E8, E9, E10, (33, .one .top (Ptr.av x6.Code_))], [], H⟩ : St) (ok_emit_Code_Pop H c8) (by generalize x6.Code_ = qp0; generalize x6.Proc_.frame_ = qp1; cases qp0 <;> cases qp1 <;> kernel_rfl) (by generalize x6.Code_ = qp0; generalize x6.Proc_.frame_ = qp1; cases qp0 <;> cases qp1 <;> kernel_rfl)) ?_
  exact o_end (by kernel_rfl) (by kernel_rfl)
  refine w_seq ?_
  refine w_seq ?_
  refine w_reg ⟨[E5, E6, (35, .one .top (.bool j1))], [], H9⟩ (by kernel_rfl) ?_
  refine w_join (α := (Heap)) (fun x => (⟨[], [], x⟩ : St)) (fun x => item_Gen_Two_j2 x = some (Hr, ra)) ?_ ?_
  rintro H10 hF
  replace hF : item_Gen_Two_j2 H10 = some (Hr, ra) := hF
  unfold item_Gen_Two_j2 at hF
  refine w_seq ?_
  refine w_reg ⟨[(4, .one .top (.int .i64 0))], [], H10⟩ (by kernel_rfl) ?_
  refine w_ret ?_
  obtain ⟨e0, e1⟩ := some2_inv hF
  subst e0
  subst e1
  exact fin_imp (v := .one .top (.int .i64 0)) (by kernel_rfl) (by kernel_rfl) (by kernel_rfl)
  rcases if_inv hF with ⟨h11, hF⟩ | ⟨h11, hF⟩
  refine w_cT (m := .top) h11 (s1 := (⟨[E5, E6], [], H9⟩ : St)) (by kernel_rfl) (by kernel_rfl) ?_
  obtain ⟨x12, V13, hF⟩ := bind1_inv hF
  replace V13 := hgetT_inv V13
  obtain ⟨H16, r14, c15, hF⟩ := bind2_inv hF
  refine w_regO ⟨[], [], H16⟩ ?_ ?_
  refine o_run 2 ⟨[E5, E6, E11, E12], [], H9⟩ (by kernel_rfl) (by kernel_rfl) ?_
  refine o_run 1 S25 (by kernel_rfl) (by generalize x12.Code_ = qp0; generalize x12.Proc_.frame_ = qp1; cases qp0 <;> cases qp1 <;> kernel_rfl) ?_
  refine o_one ⟨[E5, E6, E11, E12, E13, (39, .one .top (Ptr.av x12.Code_))], [], H9⟩ (st_ld (X := X) S25 26 V13 0 1 false (.one .top (Ptr.av x12.Code_)) (some 39) (by kernel_rfl) (by kernel_rfl) (by kernel_rfl) (by kernel_rfl) (by kernel_rfl) (by generalize x12.Code_ = qp0; generalize x12.Proc_.frame_ = qp1; cases qp0 <;> cases qp1 <;> kernel_rfl)) ?_
  refine o_run 1 ⟨[E5, E6, E11, E12, E13, (39, .one .top (Ptr.av x12.Code_)), E14], [], H9⟩ (by kernel_rfl) (by generalize x12.Code_ = qp0; generalize x12.Proc_.frame_ = qp1; cases qp0 <;> cases qp1 <;> kernel_rfl) ?_
  refine o_one ⟨[E5, E6, E11, E12, E13, (39, .one .top (Ptr.av x12.Code_)), E14, (41, .one .top (.int .i64 r14))], [], H16⟩ (st_call (d := (some 41)) (fz := false) (pure := false) (own := false) (⟨[E5, E6, E11, E12, E13, (39, .one .top (Ptr.av x12.Code_)), E14], [], H9⟩ : St) (ok_emit_Code_Three H9 c15) (by generalize x12.Code_ = qp0; generalize x12.Proc_.frame_ = qp1; cases qp0 <;> cases qp1 <;> kernel_rfl) (by generalize x12.Code_ = qp0; generalize x12.Proc_.frame_ = qp1; cases qp0 <;> cases qp1 <;> kernel_rfl)) ?_
  exact o_end (by kernel_rfl) (by kernel_rfl)
  exact ⟨H16, hF, (by kernel_rfl)⟩
  refine w_cF (m := .top) h11 (s1 := (⟨[E5, E6], [], H9⟩ : St)) (by kernel_rfl) (by kernel_rfl) ?_
  obtain ⟨x17, V18, hF⟩ := bind1_inv hF
  replace V18 := hgetT_inv V18
  obtain ⟨H21, r19, c20, hF⟩ := bind2_inv hF
  refine w_regO ⟨[], [], H21⟩ ?_ ?_
  refine o_run 2 ⟨[E5, E6, E15, E16], [], H9⟩ (by kernel_rfl) (by kernel_rfl) ?_
  refine o_run 1 S26 (by kernel_rfl) (by generalize x17.Code_ = qp0; generalize x17.Proc_.frame_ = qp1; cases qp0 <;> cases qp1 <;> kernel_rfl) ?_
  refine o_one ⟨[E5, E6, E15, E16, E17, (45, .one .top (Ptr.av x17.Code_))], [], H9⟩ (st_ld (X := X) S26 26 V18 0 1 false (.one .top (Ptr.av x17.Code_)) (some 45) (by kernel_rfl) (by kernel_rfl) (by kernel_rfl) (by kernel_rfl) (by kernel_rfl) (by generalize x17.Code_ = qp0; generalize x17.Proc_.frame_ = qp1; cases qp0 <;> cases qp1 <;> kernel_rfl)) ?_
  refine o_run 1 ⟨[E5, E6, E15, E16, E17, (45, .one .top (Ptr.av x17.Code_)), E18], [], H9⟩ (by kernel_rfl) (by generalize x17.Code_ = qp0; generalize x17.Proc_.frame_ = qp1; cases qp0 <;> cases qp1 <;> kernel_rfl) ?_
  refine o_one ⟨[E5, E6, E15, E16, E17, (45, .one .top (Ptr.av x17.Code_)), E18, (47, .one .top (.int .i64 r19))], [], H21⟩ (st_call (d := (some 47)) (fz := false) (pure := false) (own := false) (⟨[E5, E6, E15, E16, E17, (45, .one .top (Ptr.av x17.Code_)), E18], [], H9⟩ : St) (ok_emit_Code_Three H9 c20) (by generalize x17.Code_ = qp0; generalize x17.Proc_.frame_ = qp1; cases qp0 <;> cases qp1 <;> kernel_rfl) (by generalize x17.Code_ = qp0; generalize x17.Proc_.frame_ = qp1; cases qp0 <;> cases qp1 <;> kernel_rfl)) ?_
  exact o_end (by kernel_rfl) (by kernel_rfl)
  exact ⟨H21, hF, (by kernel_rfl)⟩
  rcases if_inv hF with ⟨h22, hF⟩ | ⟨h22, hF⟩
  refine w_cT (m := .top) h22 (s1 := (S27 p0)) (by kernel_rfl) (by kernel_rfl) ?_
  refine w_reg ⟨[(E1 p0), (5, .one .top (.int .i64 6)), E3], [], H⟩ (by generalize p0 = qp0; cases qp0 <;> kernel_rfl) ?_
  exact ⟨(false, 6), hF, (by kernel_rfl)⟩
  refine w_cF (m := .top) h22 (s1 := (S23 p0)) (by kernel_rfl) (by kernel_rfl) ?_
  refine w_seq ?_
  refine w_reg ⟨[(E1 p0), E3, E4, (10, .one .top (.bool (strEq p1 (ByteArray.mk #[45]))))], [], H⟩ (by generalize p0 = qp0; cases qp0 <;> kernel_rfl) ?_
  refine w_join (α := (Bool × Int)) (fun x => (⟨[(E1 p0), (5, .one .top (.int .i64 x.2)), (6, .one .top (.bool x.1))], [], H⟩ : St)) (fun x => item_Gen_Two_j3 p0 H x.1 x.2 = some (Hr, ra)) ?_ ?_
  rintro ⟨j23, j24⟩ hF
  replace hF : item_Gen_Two_j3 p0 H j23 j24 = some (Hr, ra) := hF
  unfold item_Gen_Two_j3 at hF
  exact ⟨(j23, j24), hF, (by kernel_rfl)⟩
  rcases if_inv hF with ⟨h25, hF⟩ | ⟨h25, hF⟩
  refine w_cT (m := .top) h25 (s1 := (S27 p0)) (by kernel_rfl) (by kernel_rfl) ?_
  refine w_reg ⟨[(E1 p0), (5, .one .top (.int .i64 7)), E3], [], H⟩ (by generalize p0 = qp0; cases qp0 <;> kernel_rfl) ?_
  exact ⟨(false, 7), hF, (by kernel_rfl)⟩
  refine w_cF (m := .top) h25 (s1 := (S23 p0)) (by kernel_rfl) (by kernel_rfl) ?_
  refine w_seq ?_
  refine w_reg ⟨[(E1 p0), E3, E4, (12, .one .top (.bool (strEq p1 (ByteArray.mk #[42]))))], [], H⟩ (by generalize p0 = qp0; cases qp0 <;> kernel_rfl) ?_
  refine w_join (α := (Bool × Int)) (fun x => (⟨[(E1 p0), (5, .one .top (.int .i64 x.2)), (6, .one .top (.bool x.1))], [], H⟩ : St)) (fun x => item_Gen_Two_j4 p0 H x.1 x.2 = some (Hr, ra)) ?_ ?_
  rintro ⟨j26, j27⟩ hF
  replace hF : item_Gen_Two_j4 p0 H j26 j27 = some (Hr, ra) := hF
  unfold item_Gen_Two_j4 at hF
  exact ⟨(j26, j27), hF, (by kernel_rfl)⟩
  rcases if_inv hF with ⟨h28, hF⟩ | ⟨h28, hF⟩
  refine w_cT (m := .top) h28 (s1 := (S27 p0)) (by kernel_rfl) (by kernel_rfl) ?_
  refine w_reg ⟨[(E1 p0), (5, .one .top (.int .i64 8)), E3], [], H⟩ (by generalize p0 = qp0; cases qp0 <;> kernel_rfl) ?_
  exact ⟨(false, 8), hF, (by kernel_rfl)⟩
  refine w_cF (m := .top) h28 (s1 := (S23 p0)) (by kernel_rfl) (by kernel_rfl) ?_
  refine w_seq ?_
  refine w_reg ⟨[(E1 p0), E3, E4, (14, .one .top (.bool (strEq p1 (ByteArray.mk #[68, 73, 86]))))], [], H⟩ (by generalize p0 = qp0; cases qp0 <;> kernel_rfl) ?_
  refine w_join (α := (Bool × Int)) (fun x => (⟨[(E1 p0), (5, .one .top (.int .i64 x.2)), (6, .one .top (.bool x.1))], [], H⟩ : St)) (fun x => item_Gen_Two_j5 p0 H x.1 x.2 = some (Hr, ra)) ?_ ?_
  rintro ⟨j29, j30⟩ hF
  replace hF : item_Gen_Two_j5 p0 H j29 j30 = some (Hr, ra) := hF
  unfold item_Gen_Two_j5 at hF
  exact ⟨(j29, j30), hF, (by kernel_rfl)⟩
  rcases if_inv hF with ⟨h31, hF⟩ | ⟨h31, hF⟩
  refine w_cT (m := .top) h31 (s1 := (S27 p0)) (by kernel_rfl) (by kernel_rfl) ?_
  refine w_reg ⟨[(E1 p0), (5, .one .top (.int .i64 9)), E3], [], H⟩ (by generalize p0 = qp0; cases qp0 <;> kernel_rfl) ?_
  exact ⟨(false, 9), hF, (by kernel_rfl)⟩
  refine w_cF (m := .top) h31 (s1 := (S23 p0)) (by kernel_rfl) (by kernel_rfl) ?_
  refine w_seq ?_
  refine w_reg ⟨[(E1 p0), E3, E4, (16, .one .top (.bool (strEq p1 (ByteArray.mk #[77, 79, 68]))))], [], H⟩ (by generalize p0 = qp0; cases qp0 <;> kernel_rfl) ?_
  refine w_join (α := (Bool × Int)) (fun x => (⟨[(E1 p0), (5, .one .top (.int .i64 x.2)), (6, .one .top (.bool x.1))], [], H⟩ : St)) (fun x => item_Gen_Two_j6 p0 H x.1 x.2 = some (Hr, ra)) ?_ ?_
  rintro ⟨j32, j33⟩ hF
  replace hF : item_Gen_Two_j6 p0 H j32 j33 = some (Hr, ra) := hF
  unfold item_Gen_Two_j6 at hF
  exact ⟨(j32, j33), hF, (by kernel_rfl)⟩
  rcases if_inv hF with ⟨h34, hF⟩ | ⟨h34, hF⟩
  refine w_cT (m := .top) h34 (s1 := (S27 p0)) (by kernel_rfl) (by kernel_rfl) ?_
  refine w_reg ⟨[(E1 p0), (5, .one .top (.int .i64 10)), E3], [], H⟩ (by generalize p0 = qp0; cases qp0 <;> kernel_rfl) ?_
  exact ⟨(false, 10), hF, (by kernel_rfl)⟩
  refine w_cF (m := .top) h34 (s1 := (S23 p0)) (by kernel_rfl) (by kernel_rfl) ?_
  refine w_seq ?_
  refine w_reg ⟨[(E1 p0), E3, E4, (18, .one .top (.bool (strEq p1 (ByteArray.mk #[61]))))], [], H⟩ (by generalize p0 = qp0; cases qp0 <;> kernel_rfl) ?_
  refine w_join (α := (Bool × Int)) (fun x => (⟨[(E1 p0), (5, .one .top (.int .i64 x.2)), (6, .one .top (.bool x.1))], [], H⟩ : St)) (fun x => item_Gen_Two_j7 p0 H x.1 x.2 = some (Hr, ra)) ?_ ?_
  rintro ⟨j35, j36⟩ hF
  replace hF : item_Gen_Two_j7 p0 H j35 j36 = some (Hr, ra) := hF
  unfold item_Gen_Two_j7 at hF
  exact ⟨(j35, j36), hF, (by kernel_rfl)⟩
  rcases if_inv hF with ⟨h37, hF⟩ | ⟨h37, hF⟩
  refine w_cT (m := .top) h37 (s1 := (S27 p0)) (by kernel_rfl) (by kernel_rfl) ?_
  refine w_reg ⟨[(E1 p0), (5, .one .top (.int .i64 16)), E3], [], H⟩ (by generalize p0 = qp0; cases qp0 <;> kernel_rfl) ?_
  exact ⟨(false, 16), hF, (by kernel_rfl)⟩
  refine w_cF (m := .top) h37 (s1 := (S23 p0)) (by kernel_rfl) (by kernel_rfl) ?_
  refine w_seq ?_
  refine w_reg ⟨[(E1 p0), E3, E4, (20, .one .top (.bool (strEq p1 (ByteArray.mk #[35]))))], [], H⟩ (by generalize p0 = qp0; cases qp0 <;> kernel_rfl) ?_
  refine w_join (α := (Bool × Int)) (fun x => (⟨[(E1 p0), (5, .one .top (.int .i64 x.2)), (6, .one .top (.bool x.1))], [], H⟩ : St)) (fun x => item_Gen_Two_j8 p0 H x.1 x.2 = some (Hr, ra)) ?_ ?_
  rintro ⟨j38, j39⟩ hF
  replace hF : item_Gen_Two_j8 p0 H j38 j39 = some (Hr, ra) := hF
  unfold item_Gen_Two_j8 at hF
  exact ⟨(j38, j39), hF, (by kernel_rfl)⟩
  rcases if_inv hF with ⟨h40, hF⟩ | ⟨h40, hF⟩
  refine w_cT (m := .top) h40 (s1 := (S27 p0)) (by kernel_rfl) (by kernel_rfl) ?_
  refine w_reg ⟨[(E1 p0), (5, .one .top (.int .i64 17)), E3], [], H⟩ (by generalize p0 = qp0; cases qp0 <;> kernel_rfl) ?_
  exact ⟨(false, 17), hF, (by kernel_rfl)⟩
  refine w_cF (m := .top) h40 (s1 := (S23 p0)) (by kernel_rfl) (by kernel_rfl) ?_
  refine w_seq ?_
  refine w_reg ⟨[(E1 p0), E3, E4, (22, .one .top (.bool (strEq p1 (ByteArray.mk #[60]))))], [], H⟩ (by generalize p0 = qp0; cases qp0 <;> kernel_rfl) ?_
  refine w_join (α := (Bool × Int)) (fun x => (⟨[(E1 p0), (5, .one .top (.int .i64 x.2)), (6, .one .top (.bool x.1))], [], H⟩ : St)) (fun x => item_Gen_Two_j9 p0 H x.1 x.2 = some (Hr, ra)) ?_ ?_
  rintro ⟨j41, j42⟩ hF
  replace hF : item_Gen_Two_j9 p0 H j41 j42 = some (Hr, ra) := hF
  unfold item_Gen_Two_j9 at hF
  exact ⟨(j41, j42), hF, (by kernel_rfl)⟩
  rcases if_inv hF with ⟨h43, hF⟩ | ⟨h43, hF⟩
  refine w_cT (m := .top) h43 (s1 := (S27 p0)) (by kernel_rfl) (by kernel_rfl) ?_
  refine w_reg ⟨[(E1 p0), E19, E3], [], H⟩ (by generalize p0 = qp0; cases qp0 <;> kernel_rfl) ?_
  exact ⟨(false, 14), hF, (by kernel_rfl)⟩
  refine w_cF (m := .top) h43 (s1 := (S23 p0)) (by kernel_rfl) (by kernel_rfl) ?_
  refine w_seq ?_
  refine w_reg ⟨[(E1 p0), E3, E4, (24, .one .top (.bool (strEq p1 (ByteArray.mk #[60, 61]))))], [], H⟩ (by generalize p0 = qp0; cases qp0 <;> kernel_rfl) ?_
  refine w_join (α := (Bool × Int)) (fun x => (⟨[(E1 p0), (5, .one .top (.int .i64 x.2)), (6, .one .top (.bool x.1))], [], H⟩ : St)) (fun x => item_Gen_Two_j10 p0 H x.1 x.2 = some (Hr, ra)) ?_ ?_
  rintro ⟨j44, j45⟩ hF
  replace hF : item_Gen_Two_j10 p0 H j44 j45 = some (Hr, ra) := hF
  unfold item_Gen_Two_j10 at hF
  exact ⟨(j44, j45), hF, (by kernel_rfl)⟩
  rcases if_inv hF with ⟨h46, hF⟩ | ⟨h46, hF⟩
  refine w_cT (m := .top) h46 (s1 := (S27 p0)) (by kernel_rfl) (by kernel_rfl) ?_
  refine w_reg ⟨[(E1 p0), E20, E3], [], H⟩ (by generalize p0 = qp0; cases qp0 <;> kernel_rfl) ?_
  exact ⟨(false, 15), hF, (by kernel_rfl)⟩
  refine w_cF (m := .top) h46 (s1 := (S28 p0)) (by kernel_rfl) (by kernel_rfl) ?_
  refine w_seq ?_
  refine w_reg ⟨[(E1 p0), E4, (26, .one .top (.bool (strEq p1 (ByteArray.mk #[62]))))], [], H⟩ (by generalize p0 = qp0; cases qp0 <;> kernel_rfl) ?_
  refine w_join (α := (Int)) (fun x => (⟨[(E1 p0), (5, .one .top (.int .i64 x)), E21], [], H⟩ : St)) (fun x => item_Gen_Two_j11 p0 H x = some (Hr, ra)) ?_ ?_
  rintro j47 hF
  replace hF : item_Gen_Two_j11 p0 H j47 = some (Hr, ra) := hF
  unfold item_Gen_Two_j11 at hF
  exact ⟨(true, j47), hF, (by kernel_rfl)⟩
  rcases if_inv hF with ⟨h48, hF⟩ | ⟨h48, hF⟩
  refine w_cT (m := .top) h48 (s1 := (⟨[(E1 p0)], [], H⟩ : St)) (by kernel_rfl) (by kernel_rfl) ?_
  refine w_reg ⟨[(E1 p0), E19, E21], [], H⟩ (by generalize p0 = qp0; cases qp0 <;> kernel_rfl) ?_
  exact ⟨14, hF, (by kernel_rfl)⟩
  refine w_cF (m := .top) h48 (s1 := (S28 p0)) (by kernel_rfl) (by kernel_rfl) ?_
  refine w_seq ?_
  refine w_reg ⟨[(E1 p0), (28, .one .top (.bool (strEq p1 (ByteArray.mk #[62, 61]))))], [], H⟩ (by generalize p0 = qp0; cases qp0 <;> kernel_rfl) ?_
  rcases if_inv hF with ⟨h49, hF⟩ | ⟨h49, hF⟩
  refine w_cT (m := .top) h49 (s1 := (⟨[(E1 p0)], [], H⟩ : St)) (by kernel_rfl) (by kernel_rfl) ?_
  refine w_reg ⟨[(E1 p0), E20, E21], [], H⟩ (by generalize p0 = qp0; cases qp0 <;> kernel_rfl) ?_
  exact ⟨15, hF, (by kernel_rfl)⟩
  refine w_cF (m := .top) h49 (s1 := (⟨[], [], H⟩ : St)) (by kernel_rfl) (by kernel_rfl) ?_
  refine w_seq ?_
  refine w_reg ⟨[(4, .one .top (.int .i64 110))], [], H⟩ (by kernel_rfl) ?_
  refine w_ret ?_
  obtain ⟨e0, e1⟩ := some2_inv hF
  subst e0
  subst e1
  exact fin_imp (v := .one .top (.int .i64 110)) (by kernel_rfl) (by kernel_rfl) (by kernel_rfl)
noncomputable def slices_Clone_api_Segment_api_Segment  (p0 : (List T_api_Segment)) : Option ((List T_api_Segment)) :=
  bind1 (app 16 ([] : List T_api_Segment) p0) fun v1 =>
  some v1
theorem ok_slices_Clone_api_Segment_api_Segment (H : Heap) {p0 : (List T_api_Segment)} {ra : (List T_api_Segment)} (hF : slices_Clone_api_Segment_api_Segment p0 = some ra) : evS X 130 [.one .bh (.sl 2 (List.map e_api_Segment p0))] H = some (.one (.own 1) (.sl 2 (List.map e_api_Segment ra)), H) := by
  let E1 : EN := (0, .one .bh (.sl 2 (List.map e_api_Segment p0)))
  let E2 : EN := (2, .one (.own 1) (.sl 2 (List.map e_api_Segment ([] : List T_api_Segment))))
  let E3 : EN := (3, .one .bh (.sl 2 (List.map e_api_Segment p0)))
  let E4 : EN := (4, .one .top (.bool true))
  let E5 : EN := (4, .one .top (.bool false))
  let E6 : EN := (5, .one (.own 1) (.sl 2 (List.map e_api_Segment ([] : List T_api_Segment))))
  let E7 : EN := (6, .one .bh (.sl 2 (List.map e_api_Segment p0)))
  let E8 : EN := (5, .one .top .junk)
  let S10 : St := ⟨[E1], [], H⟩
  refine k_fun Try.func130 rfl (by kernel_rfl) (by kernel_rfl) (by kernel_rfl) (s0 := S10) (by kernel_rfl) ?_
  unfold slices_Clone_api_Segment_api_Segment at hF
  obtain ⟨v1, h2, hF⟩ := bind1_inv hF
  let E9 : EN := (2, .one (.own 1) (.sl 2 (List.map e_api_Segment v1)))
  obtain e0 := some1_inv hF
  subst e0
  refine k_seq ?_
  refine k_region ?_
  refine k_step (⟨[E1, E2], [], H⟩ : St) (by kernel_rfl) (by kernel_rfl) ?_
  refine k_done S10 (by kernel_rfl) ?_
  refine k_seq ?_
  refine k_seq ?_
  refine k_region ?_
  refine k_step (⟨[E1, E3], [], H⟩ : St) (by kernel_rfl) (by kernel_rfl) ?_
  refine k_nil (d := 4) (t := 129) (x := .tmp 3) (m := .bh) (z := 2) (xs := List.map e_api_Segment p0) (⟨[E1, E3, E4], [], H⟩ : St) (⟨[E1, E3, E5], [], H⟩ : St) (by kernel_rfl) (by kernel_rfl) (by kernel_rfl) (by kernel_rfl) ?_ ?_
  intro hx
  obtain rfl := List.map_eq_nil_iff.1 hx
  obtain rfl := app_nil h2
  refine k_done (⟨[E1, E4], [], H⟩ : St) (by kernel_rfl) ?_
  refine k_condT (m := .top) (by kernel_rfl) (s1 := (⟨[], [], H⟩ : St)) (by kernel_rfl) ?_
  refine k_seq ?_
  refine k_region ?_
  refine k_step (⟨[E2], [], H⟩ : St) (by kernel_rfl) (by kernel_rfl) ?_
  refine k_done (⟨[E2], [], H⟩ : St) (by kernel_rfl) ?_
  refine k_ret ?_
  exact k_fin (v := .one (.own 1) (.sl 2 (List.map e_api_Segment ([] : List T_api_Segment)))) (by kernel_rfl) (by kernel_rfl) rfl
  refine k_done (⟨[E1, E5], [], H⟩ : St) (by kernel_rfl) ?_
  refine k_condF (m := .top) (by kernel_rfl) (s1 := S10) (by kernel_rfl) ?_
  refine k_skip ?_
  refine k_seq ?_
  refine k_region ?_
  refine k_step (⟨[E1, E6], [], H⟩ : St) (by kernel_rfl) (by kernel_rfl) ?_
  refine k_step (⟨[E1, E6, E7], [], H⟩ : St) (by kernel_rfl) (by kernel_rfl) ?_
  refine k_step (⟨[E1, E8, E7, (7, .one (.own 1) (.sl 2 (List.map e_api_Segment v1)))], [], H⟩ : St) (by kernel_rfl) (st_app (X := X) (⟨[E1, E8, E7], [], H⟩ : St) 16 h2 129 129 170 2 0 [(.top, .int .i64 0), (.top, .int .i64 0)] .bh e_api_Segment 9 (some 7) (by kernel_rfl) (by kernel_rfl) (by kernel_rfl) (by kernel_rfl) (by kernel_rfl) (by kernel_rfl) (by kernel_rfl) (by kernel_rfl) (depth_flat rfl fun _ => rfl) (fun _ => rfl) (by kernel_rfl)) ?_
  refine k_step (⟨[E1, E9, E8, E7, (7, .one .top .junk)], [], H⟩ : St) (by kernel_rfl) (by kernel_rfl) ?_
  refine k_done (⟨[E9], [], H⟩ : St) (by kernel_rfl) ?_
  refine k_ret ?_
  exact k_fin (v := .one (.own 1) (.sl 2 (List.map e_api_Segment v1))) (by kernel_rfl) (by kernel_rfl) rfl
noncomputable def ranges_Builder_List (H : Heap) (p0 : Ptr) : Option ((List T_api_Segment)) :=
  (p0).bnd fun i1 o2 =>
  bind1 (get_ranges_Builder H i1 o2) fun x4 =>
  bind1 (slices_Clone_api_Segment_api_Segment x4.list_) fun r6 =>
  some r6
theorem ok_ranges_Builder_List (H : Heap) {p0 : Ptr} {ra : (List T_api_Segment)} (hF : ranges_Builder_List H p0 = some ra) : evS X 110 [.one .top (Ptr.av p0)] H = some (.one (.own 1) (.sl 2 (List.map e_api_Segment ra)), H) := by
  let E1 : Ptr → EN := fun z0 => (0, .one .top (Ptr.av z0))
  refine w_fun Try.func110 rfl (by kernel_rfl) true (by kernel_rfl) (s0 := (⟨[(E1 p0)], [], H⟩ : St)) (by kernel_rfl) ?_
  unfold ranges_Builder_List at hF
  refine w_seq ?_
  refine w_reg ⟨[(E1 p0)], [], H⟩ (by generalize p0 = qp0; cases qp0 <;> kernel_rfl) ?_
  refine w_seq ?_
  obtain ⟨i1, o2, h3, hF⟩ := pbnd_inv hF
  let E3 : EN := (0, .one .top (.obj i1 o2))
  let E4 : EN := (3, .one .top (.obj i1 o2))
  let E5 : EN := (4, .one .top (.obj i1 o2))
  let E6 : EN := (5, .one .top (.obj i1 o2))
  let S8 : St := ⟨[E3, E4, E5, E6], [], H⟩
  obtain ⟨x4, V5, hF⟩ := bind1_inv hF
  replace V5 := hgetT_inv V5
  let E7 : EN := (6, .one .bh (.sl 2 (List.map e_api_Segment x4.list_)))
  let S9 : St := ⟨[E3, E4, E5, E6, E7], [], H⟩
  obtain ⟨r6, c7, hF⟩ := bind1_inv hF
  let E2 : EN := (2, .one (.own 1) (.sl 2 (List.map e_api_Segment r6)))
  refine w_regO ⟨[E2], [], H⟩ ?_ ?_
  refine o_run 1 ⟨[(E1 p0), (3, .one .top (Ptr.av p0))], [], H⟩ (by kernel_rfl) (by generalize p0 = qp0; cases qp0 <;> kernel_rfl) ?_
  refine o_eq (congrArg (fun q => (⟨[(0, .one .top (Ptr.av q)), (3, .one .top (Ptr.av q))], [], H⟩ : St)) h3) ?_
  refine o_run 1 ⟨[E3, E4, E5], [], H⟩ (by kernel_rfl) (by kernel_rfl) ?_
  refine o_run 1 S8 (by kernel_rfl) (by kernel_rfl) ?_
  refine o_one S9 (st_ld (X := X) S8 129 V5 0 1 false (.one .bh (.sl 2 (List.map e_api_Segment x4.list_))) (some 6) (by kernel_rfl) (by kernel_rfl) (by kernel_rfl) (by kernel_rfl) (by kernel_rfl) (by kernel_rfl)) ?_
  refine o_one ⟨[E3, E4, E5, E6, E7, (7, .one (.own 1) (.sl 2 (List.map e_api_Segment r6)))], [], H⟩ (st_call (d := (some 7)) (fz := false) (pure := true) (own := false) S9 (ok_slices_Clone_api_Segment_api_Segment H c7) (by kernel_rfl) (by kernel_rfl)) ?_
  refine o_run 1 ⟨[E3, E2, E4, E5, E6, E7, (7, .one .top .junk)], [], H⟩ (by kernel_rfl) (by kernel_rfl) ?_
  exact o_end (by kernel_rfl) (by kernel_rfl)
  refine w_ret ?_
  obtain e0 := some1_inv hF
  subst e0
  exact fin_pure (v := .one (.own 1) (.sl 2 (List.map e_api_Segment r6))) (by kernel_rfl) (by kernel_rfl) rfl (by kernel_rfl)
noncomputable def emit_Code_Finish_j2 (H16 : Heap) (i8 : Nat) (a15 : Int) (j23 : T_api_Segment) : Option ((Int × Heap) ⊕ ((Heap))) :=
  bind1 (ranges_Builder_Mark H16 (Ptr.at i8 0) j23.Start_ j23.Pad_) fun H25 =>
  some (Sum.inl ((IntKind.wrap .i64 (a15 + 1)), H25))
noncomputable def emit_Code_Finish_L1 (r13 : (List T_api_Segment)) (i1 : Nat) (o2 : Nat) (i8 : Nat) (a15 : Int) (H16 : Heap) : Option ((Int × Heap) ⊕ ((Heap))) :=
  if (decide (a15 < (r13.length : Int))) = true then (bind1 (gi r13 a15) fun x18 =>
  bind1 (get_emit_Code H16 i1 o2) fun x20 =>
  if (decide (x18.Start_ ≥ (x20.words_.length : Int))) = true then (some (Sum.inr H16))
  else (if (x18.Pad_ != (-1)) = true then (bind1 (gi x20.pads_ x18.Pad_) fun x27 =>
  emit_Code_Finish_j2 H16 i8 a15 (T_api_Segment.mk x18.Start_ x27))
  else (emit_Code_Finish_j2 H16 i8 a15 x18)))
  else (some (Sum.inr H16))
noncomputable def emit_Code_Finish (H : Heap) (p0 : Ptr) : Option (Heap × T_emit_Result × Int) :=
  (p0).bnd fun i1 o2 =>
  bind1 (get_emit_Code H i1 o2) fun x4 =>
  if (x4.err_ != 0) = true then (some (H, (T_emit_Result.mk ([] : List Int) ([] : List T_api_Fixup) ([] : List T_api_Segment)), x4.err_))
  else (bnd H.length fun i8 =>
  bnd (new_ranges_Builder H (T_ranges_Builder.mk ([] : List T_api_Segment))) fun H7 =>
  bind1 (get_emit_Code H7 i1 o2) fun x11 =>
  bind1 (ranges_Builder_List H7 (Ptr.at i1 (o2 + 2))) fun r13 =>
  bind1 (loopO (fun (x : (Int × Heap)) => emit_Code_Finish_L1 r13 i1 o2 i8 x.1 x.2) (0, H7)) (fun H31 =>
  bind1 (get_emit_Code H31 i1 o2) fun x32 =>
  bind1 (app 4 ([] : List Int) x32.words_) fun v34 =>
  bind1 (app 32 ([] : List T_api_Fixup) x32.fixups_) fun v36 =>
  bind1 (ranges_Builder_List H31 (Ptr.at i8 0)) fun r38 =>
  some (H31, (T_emit_Result.mk v34 v36 r38), 0)))
theorem ok_emit_Code_Finish (H : Heap) {p0 : Ptr} {ra : T_emit_Result} {rb : Int} {Hr : Heap} (hF : emit_Code_Finish H p0 = some (Hr, ra, rb)) : evS X 75 [.one .top (Ptr.av p0)] H = some (.tup [.agg (m0_emit_Result ra), .one .top (.int .i64 rb)], Hr) := by
  let E1 : Ptr → EN := fun z0 => (0, .one .top (Ptr.av z0))
  let E2 : EN := (2, .one .top (.loc 2 0))
  let B3 : EB := (2, [((.own 1), .sl 1 (List.map (eI .u32) ([] : List Int))), ((.own 1), .sl 4 (List.map e_api_Fixup ([] : List T_api_Fixup))), ((.own 1), .sl 2 (List.map e_api_Segment ([] : List T_api_Segment)))])
  let E11 : EN := (12, .agg [((.own 1), .sl 1 (List.map (eI .u32) ([] : List Int))), ((.own 1), .sl 4 (List.map e_api_Fixup ([] : List T_api_Fixup))), ((.own 1), .sl 2 (List.map e_api_Segment ([] : List T_api_Segment)))])
  let E16 : EN := (12, .agg [(.top, .junk), (.top, .junk), (.top, .junk)])
  let E18 : EN := (17, .agg [(.top, .junk)])
  let E21 : EN := (24, .one .top (.int .i64 0))
  let E26 : EN := (6, .one .top (.loc 6 0))
  let E30 : EN := (28, .one .top (.loc 6 0))
  let E38 : EN := (49, .one .top (.loc 6 0))
  let E40 : EN := (51, .one .top (.loc 6 1))
  let E48 : EN := (43, .one .top (.loc 6 1))
  let E52 : EN := (3, .one .top (.int .i64 0))
  let E63 : EN := (55, .one .top .junk)
  let E64 : EN := (60, .one .top .junk)
  let E65 : EN := (61, .one .top .junk)
  let E66 : EN := (66, .one .top .junk)
  let E67 : EN := (68, .one .top .junk)
  let E68 : EN := (69, .agg [(.top, .junk), (.top, .junk), (.top, .junk)])
  let E69 : EN := (55, .one (.own 1) (.sl 1 (List.map (eI .u32) ([] : List Int))))
  let E71 : EN := (61, .one (.own 1) (.sl 4 (List.map e_api_Fixup ([] : List T_api_Fixup))))
  refine w_fun Try.func75 rfl (by kernel_rfl) false (by kernel_rfl) (s0 := (⟨[(E1 p0)], [], H⟩ : St)) (by kernel_rfl) ?_
  unfold emit_Code_Finish at hF
  refine w_seq ?_
  refine w_reg ⟨[(E1 p0), E2], [B3], H⟩ (by generalize p0 = qp0; cases qp0 <;> kernel_rfl) ?_
  refine w_seq ?_
  refine w_seq ?_
  obtain ⟨i1, o2, h3, hF⟩ := pbnd_inv hF
  let E4 : EN := (0, .one .top (.obj i1 o2))
  let E6 : EN := (7, .one .top (.obj i1 o2))
  let E7 : EN := (8, .one .top (.obj i1 o2))
  let E8 : EN := (9, .one .top (.obj i1 (o2 + 7)))
  let E12 : EN := (13, .one .top (.obj i1 o2))
  let E13 : EN := (14, .one .top (.obj i1 o2))
  let E14 : EN := (15, .one .top (.obj i1 (o2 + 7)))
  let E22 : EN := (19, .one .top (.obj i1 o2))
  let E23 : EN := (20, .one .top (.obj i1 o2))
  let E24 : EN := (21, .one .top (.obj i1 (o2 + 2)))
  let E32 : EN := (30, .one .top (.obj i1 o2))
  let E33 : EN := (31, .one .top (.obj i1 o2))
  let E34 : EN := (32, .one .top (.obj i1 o2))
  let E44 : EN := (39, .one .top (.obj i1 o2))
  let E45 : EN := (40, .one .top (.obj i1 o2))
  let E46 : EN := (41, .one .top (.obj i1 (o2 + 3)))
  let E54 : EN := (56, .one .top (.obj i1 o2))
  let E55 : EN := (57, .one .top (.obj i1 o2))
  let E56 : EN := (58, .one .top (.obj i1 o2))
  let E58 : EN := (62, .one .top (.obj i1 o2))
  let E59 : EN := (63, .one .top (.obj i1 o2))
  let E60 : EN := (64, .one .top (.obj i1 (o2 + 1)))
  let S75 : St := ⟨[E4, E2, E6, E7, E8], [B3], H⟩
  let S76 : St := ⟨[E4, E2, E11, E12, E13, E14], [B3], H⟩
  obtain ⟨x4, V5, hF⟩ := bind1_inv hF
  replace V5 := hgetT_inv V5
  let E5 : EN := (11, .one .top (.bool (x4.err_ != 0)))
  let E9 : EN := (10, .one .top (.int .i64 x4.err_))
  let E10 : EN := (3, .one .top (.int .i64 x4.err_))
  let E15 : EN := (16, .one .top (.int .i64 x4.err_))
  refine w_regO ⟨[E4, E2, E5], [B3], H⟩ ?_ ?_
  refine o_run 1 ⟨[(E1 p0), E2, (7, .one .top (Ptr.av p0))], [B3], H⟩ (by kernel_rfl) (by generalize p0 = qp0; cases qp0 <;> kernel_rfl) ?_
  refine o_eq (congrArg (fun q => (⟨[(0, .one .top (Ptr.av q)), E2, (7, .one .top (Ptr.av q))], [B3], H⟩ : St)) h3) ?_
  refine o_run 1 ⟨[E4, E2, E6, E7], [B3], H⟩ (by kernel_rfl) (by kernel_rfl) ?_
  refine o_run 1 S75 (by kernel_rfl) (by kernel_rfl) ?_
  refine o_one ⟨[E4, E2, E6, E7, E8, E9], [B3], H⟩ (st_ld (X := X) S75 33 V5 7 1 false (.one .top (.int .i64 x4.err_)) (some 10) (by kernel_rfl) (by kernel_rfl) (by kernel_rfl) (by kernel_rfl) (by kernel_rfl) (by kernel_rfl)) ?_
  refine o_run 1 ⟨[E4, E2, E6, E7, E8, E9, E5], [B3], H⟩ (by kernel_rfl) (by kernel_rfl) ?_
  exact o_end (by kernel_rfl) (by kernel_rfl)
  rcases if_inv hF with ⟨h6, hF⟩ | ⟨h6, hF⟩
  refine w_cT (m := .top) h6 (s1 := (⟨[E4, E2], [B3], H⟩ : St)) (by kernel_rfl) (by kernel_rfl) ?_
  refine w_seq ?_
  refine w_regD (.take 0 (.take 1 (.take 2 (.take 3 (.take 4 (.last 5 (.take 6 .done))))))) (by kernel_rfl) (⟨[E2, E10], [B3], H⟩ : St) ?_ ?_
  refine d_take ⟨[E4, E2, E11], [B3], H⟩ (by kernel_rfl) ?_
  refine d_take ⟨[E4, E2, E11, E12], [B3], H⟩ (by kernel_rfl) ?_
  refine d_take ⟨[E4, E2, E11, E12, E13], [B3], H⟩ (by kernel_rfl) ?_
  refine d_take S76 (by kernel_rfl) ?_
  refine d_take ⟨[E4, E2, E11, E12, E13, E14, E15], [B3], H⟩ (st_ld (X := X) S76 33 V5 7 1 false (.one .top (.int .i64 x4.err_)) (some 16) (by kernel_rfl) (by kernel_rfl) (by kernel_rfl) (by kernel_rfl) (by kernel_rfl) (by kernel_rfl)) ?_
  refine d_last ⟨[E4, E2, E16, E12, E13, E14, E15], [B3], H⟩ (by kernel_rfl) ?_
  refine d_take ⟨[E4, E2, E10, E16, E12, E13, E14, E15], [B3], H⟩ (by kernel_rfl) ?_
  exact d_end (by kernel_rfl)
  refine w_ret ?_
  obtain ⟨e0, e1, e2⟩ := some3_inv hF
  subst e0
  subst e1
  subst e2
  exact fin_imp (v := .tup [.agg [((.own 1), .sl 1 (List.map (eI .u32) ([] : List Int))), ((.own 1), .sl 4 (List.map e_api_Fixup ([] : List T_api_Fixup))), ((.own 1), .sl 2 (List.map e_api_Segment ([] : List T_api_Segment)))], .one .top (.int .i64 x4.err_)]) (by kernel_rfl) (by kernel_rfl) (by kernel_rfl)
  refine w_cF (m := .top) h6 (s1 := (⟨[E4, E2], [B3], H⟩ : St)) (by kernel_rfl) (by kernel_rfl) ?_
  refine w_skip ?_
  refine w_seq ?_
  obtain ⟨i8, h10, hF⟩ := bnd_inv hF
  let E17 : EN := (4, .one .top (.obj i8 0))
  let E37 : EN := (48, .one .top (.obj i8 0))
  let E62 : EN := (67, .one .top (.obj i8 0))
  obtain ⟨H7, h9, hF⟩ := bnd_inv hF
  let S77 : St := ⟨[E4, E2, E17, E22, E23, E24], [B3], H7⟩
  refine w_regO ⟨[E4, E2, E17], [B3], H7⟩ ?_ ?_
  refine o_run 1 ⟨[E4, E2, (17, .agg [((.own 1), .sl 2 (List.map e_api_Segment ([] : List T_api_Segment)))])], [B3], H⟩ (by kernel_rfl) (by kernel_rfl) ?_
  refine o_one ⟨[E4, E2, E18, (18, .one .top (.obj H.length 0))], [B3], (H ++ [[((.own 1), .sl 2 (List.map e_api_Segment ([] : List T_api_Segment)))]])⟩ (by kernel_rfl) ?_
  refine o_eq (congr2 (fun q u => (⟨[E4, E2, E18, (18, .one .top (.obj q 0))], [B3], u⟩ : St)) h10 h9) ?_
  refine o_run 1 ⟨[E4, E2, E17, E18, (18, .one .top (.obj i8 0))], [B3], H7⟩ (by kernel_rfl) (by kernel_rfl) ?_
  exact o_end (by kernel_rfl) (by kernel_rfl)
  refine w_seq ?_
  refine w_seq ?_
  obtain ⟨x11, V12, hF⟩ := bind1_inv hF
  replace V12 := hgetT_inv V12
  obtain ⟨r13, c14, hF⟩ := bind1_inv hF
  let E19 : EN := (22, .one (.own 1) (.sl 2 (List.map e_api_Segment r13)))
  let E20 : EN := (23, .one .top (.int .i64 (r13.length : Int)))
  let S78 : St := ⟨[E4, E2, E17, E22, E23, E24, E19], [B3], H7⟩
  refine w_regO ⟨[E4, E2, E17, E19, E20, E21], [B3], H7⟩ ?_ ?_
  refine o_run 2 ⟨[E4, E2, E17, E22, E23], [B3], H7⟩ (by kernel_rfl) (by kernel_rfl) ?_
  refine o_run 1 S77 (by kernel_rfl) (by kernel_rfl) ?_
  refine o_one S78 (st_call (d := (some 22)) (fz := false) (pure := true) (own := false) S77 (ok_ranges_Builder_List H7 c14) (by kernel_rfl) (by kernel_rfl)) ?_
  refine o_one ⟨[E4, E2, E17, E22, E23, E24, E19, E20], [B3], H7⟩ (st_len S78 r13 e_api_Segment (some 23) (by kernel_rfl) (by kernel_rfl)) ?_
  refine o_run 1 ⟨[E4, E2, E17, E22, E23, E24, E19, E20, E21], [B3], H7⟩ (by kernel_rfl) (by kernel_rfl) ?_
  exact o_end (by kernel_rfl) (by kernel_rfl)
  refine w_block ?_
  obtain ⟨r29, hL30, hF⟩ := bind1_inv hF
  refine w_loop (fun (x : (Int × Heap)) => (⟨[E4, E2, E17, E19, E20, (24, .one .top (.int .i64 x.1))], [B3], x.2⟩ : St)) (fun (y : (Heap)) => ((.exit 0, (⟨[E4, E2, E17], [B3], y⟩ : St)) : Ex × St)) hL30 (by kernel_rfl) ?_ ?_
  rintro ⟨a15, H16⟩ o hF
  replace hF : emit_Code_Finish_L1 r13 i1 o2 i8 a15 H16 = some o := hF
  let E25 : EN := (24, .one .top (.int .i64 a15))
  let S79 : St := ⟨[E4, E2, E17, E19, E20, E25], [B3], H16⟩
  let S83 : St := ⟨[E4, E2, E17], [B3], H16⟩
  unfold emit_Code_Finish_L1 at hF
  refine w_seq ?_
  refine w_reg ⟨[E4, E2, E17, E19, E20, E25, (25, .one .top (.bool (decide (a15 < (r13.length : Int)))))], [B3], H16⟩ (by kernel_rfl) ?_
  refine w_seq ?_
  rcases if_inv hF with ⟨h17, hF⟩ | ⟨h17, hF⟩
  refine w_cT (m := .top) h17 (s1 := S79) (by kernel_rfl) (by kernel_rfl) ?_
  refine w_skip ?_
  refine w_seq ?_
  refine w_block ?_
  refine w_seq ?_
  obtain ⟨x18, h19, hF⟩ := bind1_inv hF
  let B27 : EB := (6, [(.top, .int .i64 x18.Start_), (.top, .int .i64 x18.Pad_)])
  let E28 : EN := (26, .one .top (.rd .bl (.own 0) [.int .i64 x18.Start_, .int .i64 x18.Pad_] 0))
  let E31 : EN := (29, .one .top (.int .i64 x18.Start_))
  let E49 : EN := (44, .one .top (.int .i64 x18.Pad_))
  let S80 : St := ⟨[E4, E2, E17, E26, E19, E20, E25], [B3, B27], H16⟩
  let S81 : St := ⟨[E4, E2, E17, E26, E19, E20, E25, E30, E31, E32, E33, E34], [B3, B27], H16⟩
  let S85 : St := ⟨[E4, E2, E17, E26, E19, E20, E25, E44, E45, E46], [B3, B27], H16⟩
  refine w_regO S80 ?_ ?_
  refine o_one ⟨[E4, E2, E17, E19, E20, E25, E28], [B3], H16⟩ (st_ix (X := X) S79 129 170 2 h19 e_api_Segment (.own 1) (some 26) (by kernel_rfl) (by kernel_rfl) (by kernel_rfl) (by kernel_rfl)) ?_
  refine o_run 3 ⟨[E4, E2, E17, E26, E19, E20, E25, E28, (27, .agg [(.top, .int .i64 x18.Start_), (.top, .int .i64 x18.Pad_)])], [B3, B27], H16⟩ (by kernel_rfl) (by kernel_rfl) ?_
  exact o_end (by kernel_rfl) (by kernel_rfl)
  refine w_seq ?_
  refine w_seq ?_
  obtain ⟨x20, V21, hF⟩ := bind1_inv hF
  replace V21 := hgetT_inv V21
  let E29 : EN := (35, .one .top (.bool (decide (x18.Start_ ≥ (x20.words_.length : Int)))))
  let E35 : EN := (33, .one .bh (.sl 1 (List.map (eI .u32) x20.words_)))
  let E36 : EN := (34, .one .top (.int .i64 (x20.words_.length : Int)))
  let E47 : EN := (42, .one .bh (.sl 1 (List.map (eI .i64) x20.pads_)))
  let S82 : St := ⟨[E4, E2, E17, E26, E19, E20, E25, E30, E31, E32, E33, E34, E35], [B3, B27], H16⟩
  let S86 : St := ⟨[E4, E2, E17, E26, E19, E20, E25, E44, E45, E46, E47, E48, E49], [B3, B27], H16⟩
  refine w_regD (.take 0 (.take 1 (.take 2 (.take 3 (.take 4 (.take 5 (.take 6 (.take 7 .done)))))))) (by kernel_rfl) (⟨[E4, E2, E17, E26, E19, E20, E25, E29], [B3, B27], H16⟩ : St) ?_ ?_
  refine d_take ⟨[E4, E2, E17, E26, E19, E20, E25, E30], [B3, B27], H16⟩ (by kernel_rfl) ?_
  refine d_take ⟨[E4, E2, E17, E26, E19, E20, E25, E30, E31], [B3, B27], H16⟩ (by kernel_rfl) ?_
  refine d_take ⟨[E4, E2, E17, E26, E19, E20, E25, E30, E31, E32], [B3, B27], H16⟩ (by kernel_rfl) ?_
  refine d_take ⟨[E4, E2, E17, E26, E19, E20, E25, E30, E31, E32, E33], [B3, B27], H16⟩ (by kernel_rfl) ?_
  refine d_take S81 (by kernel_rfl) ?_
  refine d_take S82 (st_ld (X := X) S81 42 V21 0 1 false (.one .bh (.sl 1 (List.map (eI .u32) x20.words_))) (some 33) (by kernel_rfl) (by kernel_rfl) (by kernel_rfl) (by kernel_rfl) (by kernel_rfl) (by kernel_rfl)) ?_
  refine d_take ⟨[E4, E2, E17, E26, E19, E20, E25, E30, E31, E32, E33, E34, E35, E36], [B3, B27], H16⟩ (st_len S82 x20.words_ (eI .u32) (some 34) (by kernel_rfl) (by kernel_rfl)) ?_
  refine d_take ⟨[E4, E2, E17, E26, E19, E20, E25, E30, E31, E32, E33, E34, E35, E36, E29], [B3, B27], H16⟩ (by kernel_rfl) ?_
  exact d_end (by kernel_rfl)
  rcases if_inv hF with ⟨h22, hF⟩ | ⟨h22, hF⟩
  refine w_cT (m := .top) h22 (s1 := S83) (by kernel_rfl) (by kernel_rfl) ?_
  refine w_exit ?_
  refine e_out rfl ?_
  cases hF
  exact ⟨_, rfl, (by kernel_rfl)⟩
  refine w_cF (m := .top) h22 (s1 := S80) (by kernel_rfl) (by kernel_rfl) ?_
  refine w_skip ?_
  refine w_seq ?_
  refine w_seq ?_
  refine w_reg ⟨[E4, E2, E17, E26, E19, E20, E25, (38, .one .top (.bool (x18.Pad_ != (-1))))], [B3, B27], H16⟩ (by kernel_rfl) ?_
  refine w_join (α := (T_api_Segment)) (fun x => (⟨[E4, E2, E17, E26, E19, E20, E25], [B3, (6, [(.top, .int .i64 x.Start_), (.top, .int .i64 x.Pad_)])], H16⟩ : St)) (fun x => emit_Code_Finish_j2 H16 i8 a15 x = some o) ?_ ?_
  rintro j23 hF
  replace hF : emit_Code_Finish_j2 H16 i8 a15 j23 = some o := hF
  let E39 : EN := (50, .one .top (.int .i64 j23.Start_))
  let E41 : EN := (52, .one .top (.int .i64 j23.Pad_))
  let B42 : EB := (6, [(.top, .int .i64 j23.Start_), (.top, .int .i64 j23.Pad_)])
  let S84 : St := ⟨[E4, E2, E17, E26, E19, E20, E25, E37, E38, E39, E40, E41], [B3, B42], H16⟩
  unfold emit_Code_Finish_j2 at hF
  obtain ⟨H25, c24, hF⟩ := bind1_inv hF
  refine w_regO ⟨[E4, E2, E17, E19, E20, E25], [B3], H25⟩ ?_ ?_
  refine o_run 5 S84 (by kernel_rfl) (by kernel_rfl) ?_
  refine o_one ⟨[E4, E2, E17, E26, E19, E20, E25, E37, E38, E39, E40, E41, (53, .tup [])], [B3, B42], H25⟩ (st_call (d := (some 53)) (fz := false) (pure := false) (own := false) S84 (ok_ranges_Builder_Mark H16 c24) (by kernel_rfl) (by kernel_rfl)) ?_
  exact o_end (by kernel_rfl) (by kernel_rfl)
  refine w_reg ⟨[E4, E2, E17, E19, E20, (24, .one .top (.int .i64 (IntKind.wrap .i64 (a15 + 1))))], [B3], H25⟩ (by kernel_rfl) ?_
  cases hF
  exact ⟨_, rfl, (by kernel_rfl)⟩
  rcases if_inv hF with ⟨h26, hF⟩ | ⟨h26, hF⟩
  refine w_cT (m := .top) h26 (s1 := S80) (by kernel_rfl) (by kernel_rfl) ?_
  obtain ⟨x27, h28, hF⟩ := bind1_inv hF
  let B43 : EB := (6, [(.top, .int .i64 x18.Start_), (.top, .int .i64 x27)])
  let E50 : EN := (45, .one .top (.rd .bh .bh [.int .i64 x27] 0))
  let E51 : EN := (46, .one .top (.int .i64 x27))
  refine w_regD (.take 0 (.take 1 (.take 2 (.take 3 (.take 4 (.last 5 (.take 6 (.take 7 (.take 8 (.last 9 .done)))))))))) (by kernel_rfl) (⟨[E4, E2, E17, E26, E19, E20, E25], [B3, B43], H16⟩ : St) ?_ ?_
  refine d_take ⟨[E4, E2, E17, E26, E19, E20, E25, E44], [B3, B27], H16⟩ (by kernel_rfl) ?_
  refine d_take ⟨[E4, E2, E17, E26, E19, E20, E25, E44, E45], [B3, B27], H16⟩ (by kernel_rfl) ?_
  refine d_take S85 (by kernel_rfl) ?_
  refine d_take ⟨[E4, E2, E17, E26, E19, E20, E25, E44, E45, E46, E47], [B3, B27], H16⟩ (st_ld (X := X) S85 27 V21 3 1 false (.one .bh (.sl 1 (List.map (eI .i64) x20.pads_))) (some 42) (by kernel_rfl) (by kernel_rfl) (by kernel_rfl) (by kernel_rfl) (by kernel_rfl) (by kernel_rfl)) ?_
  refine d_take ⟨[E4, E2, E17, E26, E19, E20, E25, E44, E45, E46, E47, E48], [B3, B27], H16⟩ (by kernel_rfl) ?_
  refine d_last S86 (by kernel_rfl) ?_
  refine d_take ⟨[E4, E2, E17, E26, E19, E20, E25, E44, E45, E46, E47, E48, E49, E50], [B3, B27], H16⟩ (st_ix (X := X) S86 27 3 1 h28 (eI .i64) .bh (some 45) (by kernel_rfl) (by kernel_rfl) (by kernel_rfl) (by kernel_rfl)) ?_
  refine d_take ⟨[E4, E2, E17, E26, E19, E20, E25, E44, E45, E46, E47, E48, E49, E50, E51], [B3, B27], H16⟩ (by kernel_rfl) ?_
  refine d_take ⟨[E4, E2, E17, E26, E19, E20, E25, E44, E45, E46, E47, E48, E49, E50, E51, (47, .one .top (.loc 6 1))], [B3, B27], H16⟩ (by kernel_rfl) ?_
  refine d_last ⟨[E4, E2, E17, E26, E19, E20, E25, E44, E45, E46, E47, E48, E49, E50, E51, (47, .one .top (.loc 6 1))], [B3, B43], H16⟩ (by kernel_rfl) ?_
  exact d_end (by kernel_rfl)
  exact ⟨(T_api_Segment.mk x18.Start_ x27), hF, (by kernel_rfl)⟩
  refine w_cF (m := .top) h26 (s1 := S80) (by kernel_rfl) (by kernel_rfl) ?_
  refine w_skip ?_
  exact ⟨x18, hF, (by kernel_rfl)⟩
  refine w_cF (m := .top) h17 (s1 := S83) (by kernel_rfl) (by kernel_rfl) ?_
  refine w_exit ?_
  cases hF
  exact ⟨_, rfl, (by kernel_rfl)⟩
  obtain ⟨H31, hy⟩ : ∃ y, y = r29 := ⟨_, rfl⟩
  subst hy
  let S87 : St := ⟨[E4, E2, E17, E54, E55, E56], [B3], H31⟩
  refine w_oe (i := 0) (s := (⟨[E4, E2, E17], [B3], H31⟩ : St)) (by kernel_rfl) ?_
  refine e_here ?_
  refine w_seq ?_
  obtain ⟨x32, V33, hF⟩ := bind1_inv hF
  replace V33 := hgetT_inv V33
  let E57 : EN := (59, .one .bh (.sl 1 (List.map (eI .u32) x32.words_)))
  let E61 : EN := (65, .one .bh (.sl 4 (List.map e_api_Fixup x32.fixups_)))
  let S88 : St := ⟨[E4, E2, E17, E54, E55, E56, E57, E58, E59, E60], [B3], H31⟩
  let S96 : St := ⟨[E4, E2, E17, E69, E54, E55, E56, E57, E71, E58, E59, E60, E61, E62], [B3], H31⟩
  let S97 : St := ⟨[E4, E2, E17, E63, E54, E55, E56, E57, E71, E58, E59, E60, E61, E62], [B3], H31⟩
  obtain ⟨v34, h35, hF⟩ := bind1_inv hF
  let E70 : EN := (60, .one (.own 1) (.sl 1 (List.map (eI .u32) v34)))
  let S90 : St := ⟨[E4, E2, E17, E63, E54, E55, E56, E57, E70, E71, E58, E59, E60, E61, E62], [B3], H31⟩
  let S92 : St := ⟨[E4, E2, E17, E63, E54, E55, E56, E57, E70, E65, E58, E59, E60, E61, E62], [B3], H31⟩
  obtain ⟨v36, h37, hF⟩ := bind1_inv hF
  let E72 : EN := (66, .one (.own 1) (.sl 4 (List.map e_api_Fixup v36)))
  let S91 : St := ⟨[E4, E2, E17, E63, E54, E55, E56, E57, E70, E65, E58, E59, E60, E61, E72, E62], [B3], H31⟩
  obtain ⟨r38, c39, hF⟩ := bind1_inv hF
  let B53 : EB := (2, [((.own 1), .sl 1 (List.map (eI .u32) v34)), ((.own 1), .sl 4 (List.map e_api_Fixup v36)), ((.own 1), .sl 2 (List.map e_api_Segment r38))])
  let E73 : EN := (68, .one (.own 1) (.sl 2 (List.map e_api_Segment r38)))
  let E74 : EN := (69, .agg [((.own 1), .sl 1 (List.map (eI .u32) v34)), ((.own 1), .sl 4 (List.map e_api_Fixup v36)), ((.own 1), .sl 2 (List.map e_api_Segment r38))])
  let S89 : St := ⟨[E4, E2, E52, E17, E63, E54, E55, E56, E57, E64, E65, E58, E59, E60, E61, E66, E62, E67, E68], [B53], H31⟩
  let S93 : St := ⟨[E4, E2, E17, E63, E54, E55, E56, E57, E70, E65, E58, E59, E60, E61, E72, E62, E73], [B3], H31⟩
  let S94 : St := ⟨[E4, E2, E17, E63, E54, E55, E56, E57, E64, E65, E58, E59, E60, E61, E66, E62, E67, E74], [B3], H31⟩
  let S95 : St := ⟨[E4, E2, E17, E63, E54, E55, E56, E57, E64, E65, E58, E59, E60, E61, E66, E62, E67, E68], [B53], H31⟩
  let K98 : Sch := .last 5 (.last 11 (.last 13 (.take 14 (.last 15 (.take 16 .done)))))
  refine w_regD (.take 1 (.take 2 (.take 3 (.take 4 (.take 7 (.take 8 (.take 9 (.take 10 (.take 12 (.alt 0 (.alt 5 (.last 6 (.last 11 (.last 13 (.take 14 (.last 15 (.take 16 .done)))))) (.last 6 K98)) (.last 6 (.last 0 K98)))))))))))) (by kernel_rfl) (⟨[E2, E52], [B53], H31⟩ : St) ?_ ?_
  refine d_take ⟨[E4, E2, E17, E54], [B3], H31⟩ (by kernel_rfl) ?_
  refine d_take ⟨[E4, E2, E17, E54, E55], [B3], H31⟩ (by kernel_rfl) ?_
  refine d_take S87 (by kernel_rfl) ?_
  refine d_take ⟨[E4, E2, E17, E54, E55, E56, E57], [B3], H31⟩ (st_ld (X := X) S87 42 V33 0 1 false (.one .bh (.sl 1 (List.map (eI .u32) x32.words_))) (some 59) (by kernel_rfl) (by kernel_rfl) (by kernel_rfl) (by kernel_rfl) (by kernel_rfl) (by kernel_rfl)) ?_
  refine d_take ⟨[E4, E2, E17, E54, E55, E56, E57, E58], [B3], H31⟩ (by kernel_rfl) ?_
  refine d_take ⟨[E4, E2, E17, E54, E55, E56, E57, E58, E59], [B3], H31⟩ (by kernel_rfl) ?_
  refine d_take S88 (by kernel_rfl) ?_
  refine d_take ⟨[E4, E2, E17, E54, E55, E56, E57, E58, E59, E60, E61], [B3], H31⟩ (st_ld (X := X) S88 128 V33 1 1 false (.one .bh (.sl 4 (List.map e_api_Fixup x32.fixups_))) (some 65) (by kernel_rfl) (by kernel_rfl) (by kernel_rfl) (by kernel_rfl) (by kernel_rfl) (by kernel_rfl)) ?_
  refine d_take ⟨[E4, E2, E17, E54, E55, E56, E57, E58, E59, E60, E61, E62], [B3], H31⟩ (by kernel_rfl) ?_
  refine q_in S89 ?_ ?_
  refine q_alt ⟨[E4, E2, E17, E69, E54, E55, E56, E57, E58, E59, E60, E61, E62], [B3], H31⟩ (by kernel_rfl) ?_ ?_
  refine q_alt ⟨[E4, E2, E17, E63, E54, E55, E56, E57, E70, E58, E59, E60, E61, E62], [B3], H31⟩ (st_app (X := X) (⟨[E4, E2, E17, E63, E54, E55, E56, E57, E58, E59, E60, E61, E62], [B3], H31⟩ : St) 4 h35 42 42 35 1 0 [(.top, .int .u32 0)] .bh (eI .u32) 9 (some 60) (by kernel_rfl) (by kernel_rfl) (by kernel_rfl) (by kernel_rfl) (by kernel_rfl) (by kernel_rfl) (by kernel_rfl) (by kernel_rfl) (depth_flat rfl fun _ => rfl) (fun _ => rfl) (by kernel_rfl)) ?_ ?_
  refine q_last S90 (by kernel_rfl) ?_
  refine q_last S91 (st_app (X := X) S92 32 h37 128 128 135 4 0 (List.replicate 4 (.top, .int .i64 0)) .bh e_api_Fixup 9 (some 66) (by kernel_rfl) (by kernel_rfl) (by kernel_rfl) (by kernel_rfl) (by kernel_rfl) (by kernel_rfl) (by kernel_rfl) (by kernel_rfl) (depth_flat rfl fun _ => rfl) (fun _ => rfl) (by kernel_rfl)) ?_
  refine q_last S93 (st_call (d := (some 68)) (fz := false) (pure := true) (own := false) S91 (ok_ranges_Builder_List H31 c39) (by kernel_rfl) (by kernel_rfl)) ?_
  refine q_take S94 (by kernel_rfl) ?_
  refine q_last S95 (by kernel_rfl) ?_
  refine q_take S89 (by kernel_rfl) ?_
  exact q_end (by kernel_rfl)
  refine q_last S96 (by kernel_rfl) ?_
  refine q_last S90 (st_app (X := X) S97 4 h35 42 42 35 1 0 [(.top, .int .u32 0)] .bh (eI .u32) 9 (some 60) (by kernel_rfl) (by kernel_rfl) (by kernel_rfl) (by kernel_rfl) (by kernel_rfl) (by kernel_rfl) (by kernel_rfl) (by kernel_rfl) (depth_flat rfl fun _ => rfl) (fun _ => rfl) (by kernel_rfl)) ?_
  refine q_last S91 (st_app (X := X) S92 32 h37 128 128 135 4 0 (List.replicate 4 (.top, .int .i64 0)) .bh e_api_Fixup 9 (some 66) (by kernel_rfl) (by kernel_rfl) (by kernel_rfl) (by kernel_rfl) (by kernel_rfl) (by kernel_rfl) (by kernel_rfl) (by kernel_rfl) (depth_flat rfl fun _ => rfl) (fun _ => rfl) (by kernel_rfl)) ?_
  refine q_last S93 (st_call (d := (some 68)) (fz := false) (pure := true) (own := false) S91 (ok_ranges_Builder_List H31 c39) (by kernel_rfl) (by kernel_rfl)) ?_
  refine q_take S94 (by kernel_rfl) ?_
  refine q_last S95 (by kernel_rfl) ?_
  refine q_take S89 (by kernel_rfl) ?_
  exact q_end (by kernel_rfl)
  refine q_last ⟨[E4, E2, E17, E54, E55, E56, E57, E71, E58, E59, E60, E61, E62], [B3], H31⟩ (by kernel_rfl) ?_
  refine q_last S96 (by kernel_rfl) ?_
  refine q_last S90 (st_app (X := X) S97 4 h35 42 42 35 1 0 [(.top, .int .u32 0)] .bh (eI .u32) 9 (some 60) (by kernel_rfl) (by kernel_rfl) (by kernel_rfl) (by kernel_rfl) (by kernel_rfl) (by kernel_rfl) (by kernel_rfl) (by kernel_rfl) (depth_flat rfl fun _ => rfl) (fun _ => rfl) (by kernel_rfl)) ?_
  refine q_last S91 (st_app (X := X) S92 32 h37 128 128 135 4 0 (List.replicate 4 (.top, .int .i64 0)) .bh e_api_Fixup 9 (some 66) (by kernel_rfl) (by kernel_rfl) (by kernel_rfl) (by kernel_rfl) (by kernel_rfl) (by kernel_rfl) (by kernel_rfl) (by kernel_rfl) (depth_flat rfl fun _ => rfl) (fun _ => rfl) (by kernel_rfl)) ?_
  refine q_last S93 (st_call (d := (some 68)) (fz := false) (pure := true) (own := false) S91 (ok_ranges_Builder_List H31 c39) (by kernel_rfl) (by kernel_rfl)) ?_
  refine q_take S94 (by kernel_rfl) ?_
  refine q_last S95 (by kernel_rfl) ?_
  refine q_take S89 (by kernel_rfl) ?_
  exact q_end (by kernel_rfl)
  kernel_rfl
  refine w_ret ?_
  obtain ⟨e0, e1, e2⟩ := some3_inv hF
  subst e0
  subst e1
  subst e2
  exact fin_imp (v := .tup [.agg [((.own 1), .sl 1 (List.map (eI .u32) v34)), ((.own 1), .sl 4 (List.map e_api_Fixup v36)), ((.own 1), .sl 2 (List.map e_api_Segment r38))], .one .top (.int .i64 0)]) (by kernel_rfl) (by kernel_rfl) (by kernel_rfl)
noncomputable def law19_ended_j2 (a18 : (List Int)) (x21 : T_api_Fixup) (a19 : Int) (j25 : Int) : Option (((List Int) × Int) ⊕ (((List Int)) ⊕ Unit)) :=
  bind1 (gi a18 x21.At_) fun x26 =>
  bind1 (gi a18 x21.At_) fun x28 =>
  bind1 (si a18 x21.At_ (bitsOf .or .u32 x26 (IntKind.wrap .u32 (Int.fdiv j25 (2 ^ 16))))) fun v30 =>
  bind1 (gi v30 (IntKind.wrap .i64 (x21.At_ + 1))) fun x32 =>
  bind1 (gi v30 (IntKind.wrap .i64 (x21.At_ + 1))) fun x34 =>
  bind1 (si v30 (IntKind.wrap .i64 (x21.At_ + 1)) (bitsOf .or .u32 x32 (IntKind.wrap .u32 (bitsOf .and .i64 j25 65535)))) fun v36 =>
  some (Sum.inl (v36, (IntKind.wrap .i64 (a19 + 1))))
noncomputable def law19_ended_L1 (r11 : T_emit_Result) (p1 : Int) (a18 : (List Int)) (a19 : Int) : Option (((List Int) × Int) ⊕ (((List Int)) ⊕ Unit)) :=
  if (decide (a19 < (r11.Fixups_.length : Int))) = true then (bind1 (gi r11.Fixups_ a19) fun x21 =>
  if ((decide (x21.At_ < 0)) || (decide ((IntKind.wrap .i64 (x21.At_ + 1)) ≥ (a18.length : Int)))) = true then (some (Sum.inr (Sum.inr ())))
  else (if (x21.Kind_ == 4) = true then (law19_ended_j2 a18 x21 a19 (IntKind.wrap .i64 ((IntKind.wrap .i64 (4 * (a18.length : Int))) + p1)))
  else (law19_ended_j2 a18 x21 a19 (IntKind.wrap .i64 ((IntKind.wrap .i64 (4 * (a18.length : Int))) + x21.Value_)))))
  else (some (Sum.inr (Sum.inl a18)))
noncomputable def law19_ended (H : Heap) (p0 : Ptr) (p1 : Int) : Option (Heap × (List Int) × Bool) :=
  (p0).bnd fun i1 o2 =>
  bind1 (get_item_Gen H i1 o2) fun x4 =>
  bind2 (emit_Code_Reg H x4.Code_ 1 0) fun H8 r6 =>
  bind1 (get_item_Gen H8 i1 o2) fun x9 =>
  bind3 (emit_Code_Finish H8 x9.Code_) fun H14 r11 r12 =>
  if (r12 != 0) = true then (some (H14, ([] : List Int), false))
  else (bind1 (app 4 ([] : List Int) r11.Words_) fun v16 =>
  bind1 (loopO (fun (x : ((List Int) × Int)) => law19_ended_L1 r11 p1 x.1 x.2) (v16, 0)) (sum2 (fun b41 =>
  some (H14, b41, true)) (fun (_ : Unit) =>
  some (H14, ([] : List Int), false))))
theorem ok_law19_ended (H : Heap) {p0 : Ptr} {p1 : Int} {ra : (List Int)} {rb : Bool} {Hr : Heap} (hF : law19_ended H p0 p1 = some (Hr, ra, rb)) : evS X 22 [.one .top (Ptr.av p0), .one .top (.int .i64 p1)] H = some (.tup [.one (.own 1) (.sl 1 (List.map (eI .u32) ra)), .one .top (.bool rb)], Hr) := by
  let E1 : Ptr → EN := fun z0 => (0, .one .top (Ptr.av z0))
  let E2 : EN := (1, .one .top (.int .i64 p1))
  let E7 : EN := (6, .one .top (.loc 6 0))
  let E13 : EN := (4, .one (.own 1) (.sl 1 (List.map (eI .u32) ([] : List Int))))
  let E14 : EN := (5, .one .top (.bool false))
  let E16 : EN := (28, .one .top (.loc 6 0))
  let E18 : EN := (27, .one .top .junk)
  let E23 : EN := (32, .one .top (.loc 6 1))
  let E26 : EN := (10, .one .top (.loc 10 0))
  let E28 : EN := (38, .one .top (.loc 6 1))
  let E32 : EN := (43, .one .top (.loc 10 0))
  let E34 : EN := (45, .one .top (.bool false))
  let E35 : EN := (46, .one .top (.bool false))
  let E36 : EN := (47, .one .top (.loc 10 0))
  let E47 : EN := (69, .one .top (.loc 10 0))
  let E50 : EN := (72, .one .top (.loc 10 0))
  let E61 : EN := (82, .one .top (.loc 10 0))
  let E65 : EN := (86, .one .top (.loc 10 0))
  let S78 : Ptr → St := fun z0 => ⟨[(E1 z0), E2], [], H⟩
  refine w_fun Try.func22 rfl (by kernel_rfl) false (by kernel_rfl) (s0 := (S78 p0)) (by kernel_rfl) ?_
  unfold law19_ended at hF
  refine w_seq ?_
  refine w_reg (S78 p0) (by generalize p0 = qp0; cases qp0 <;> kernel_rfl) ?_
  refine w_seq ?_
  obtain ⟨i1, o2, h3, hF⟩ := pbnd_inv hF
  let E3 : EN := (0, .one .top (.obj i1 o2))
  let E4 : EN := (12, .one .top (.obj i1 o2))
  let E5 : EN := (13, .one .top (.obj i1 o2))
  let E6 : EN := (14, .one .top (.obj i1 o2))
  let E10 : EN := (18, .one .top (.obj i1 o2))
  let E11 : EN := (19, .one .top (.obj i1 o2))
  let E12 : EN := (20, .one .top (.obj i1 o2))
  let S79 : St := ⟨[E3, E2, E4, E5, E6], [], H⟩
  obtain ⟨x4, V5, hF⟩ := bind1_inv hF
  replace V5 := hgetT_inv V5
  obtain ⟨H8, r6, c7, hF⟩ := bind2_inv hF
  let S80 : St := ⟨[E3, E2, E10, E11, E12], [], H8⟩
  refine w_regO ⟨[E3, E2], [], H8⟩ ?_ ?_
  refine o_run 1 ⟨[(E1 p0), E2, (12, .one .top (Ptr.av p0))], [], H⟩ (by kernel_rfl) (by generalize p0 = qp0; cases qp0 <;> kernel_rfl) ?_
  refine o_eq (congrArg (fun q => (⟨[(0, .one .top (Ptr.av q)), E2, (12, .one .top (Ptr.av q))], [], H⟩ : St)) h3) ?_
  refine o_run 1 ⟨[E3, E2, E4, E5], [], H⟩ (by kernel_rfl) (by kernel_rfl) ?_
  refine o_run 1 S79 (by kernel_rfl) (by generalize x4.Code_ = qp0; generalize x4.Proc_.frame_ = qp1; cases qp0 <;> cases qp1 <;> kernel_rfl) ?_
  refine o_one ⟨[E3, E2, E4, E5, E6, (15, .one .top (Ptr.av x4.Code_))], [], H⟩ (st_ld (X := X) S79 26 V5 0 1 false (.one .top (Ptr.av x4.Code_)) (some 15) (by kernel_rfl) (by kernel_rfl) (by kernel_rfl) (by kernel_rfl) (by kernel_rfl) (by generalize x4.Code_ = qp0; generalize x4.Proc_.frame_ = qp1; cases qp0 <;> cases qp1 <;> kernel_rfl)) ?_
  refine o_one ⟨[E3, E2, E4, E5, E6, (15, .one .top (Ptr.av x4.Code_)), (16, .one .top (.int .i64 r6))], [], H8⟩ (st_call (d := (some 16)) (fz := false) (pure := false) (own := false) (⟨[E3, E2, E4, E5, E6, (15, .one .top (Ptr.av x4.Code_))], [], H⟩ : St) (ok_emit_Code_Reg H c7) (by generalize x4.Code_ = qp0; generalize x4.Proc_.frame_ = qp1; cases qp0 <;> cases qp1 <;> kernel_rfl) (by generalize x4.Code_ = qp0; generalize x4.Proc_.frame_ = qp1; cases qp0 <;> cases qp1 <;> kernel_rfl)) ?_
  exact o_end (by kernel_rfl) (by kernel_rfl)
  refine w_seq ?_
  obtain ⟨x9, V10, hF⟩ := bind1_inv hF
  replace V10 := hgetT_inv V10
  obtain ⟨H14, r11, r12, c13, hF⟩ := bind3_inv hF
  let E8 : EN := (7, .one .top (.int .i64 r12))
  let B9 : EB := (6, (m0_emit_Result r11))
  let E17 : EN := (29, .one .bl (.sl 1 (List.map (eI .u32) r11.Words_)))
  let E24 : EN := (33, .one .bl (.sl 4 (List.map e_api_Fixup r11.Fixups_)))
  let E25 : EN := (34, .one .top (.int .i64 (r11.Fixups_.length : Int)))
  let E29 : EN := (39, .one .bl (.sl 4 (List.map e_api_Fixup r11.Fixups_)))
  let S81 : St := ⟨[E13, E14], [], H14⟩
  refine w_regO ⟨[E2, E7, E8], [B9], H14⟩ ?_ ?_
  refine o_run 2 ⟨[E3, E2, E10, E11], [], H8⟩ (by kernel_rfl) (by kernel_rfl) ?_
  refine o_run 1 S80 (by kernel_rfl) (by generalize x9.Code_ = qp0; generalize x9.Proc_.frame_ = qp1; cases qp0 <;> cases qp1 <;> kernel_rfl) ?_
  refine o_one ⟨[E3, E2, E10, E11, E12, (21, .one .top (Ptr.av x9.Code_))], [], H8⟩ (st_ld (X := X) S80 26 V10 0 1 false (.one .top (Ptr.av x9.Code_)) (some 21) (by kernel_rfl) (by kernel_rfl) (by kernel_rfl) (by kernel_rfl) (by kernel_rfl) (by generalize x9.Code_ = qp0; generalize x9.Proc_.frame_ = qp1; cases qp0 <;> cases qp1 <;> kernel_rfl)) ?_
  refine o_one ⟨[E3, E2, E10, E11, E12, (21, .one .top (Ptr.av x9.Code_)), (22, .tup [.agg (m0_emit_Result r11), .one .top (.int .i64 r12)])], [], H14⟩ (st_call (d := (some 22)) (fz := false) (pure := false) (own := false) (⟨[E3, E2, E10, E11, E12, (21, .one .top (Ptr.av x9.Code_))], [], H8⟩ : St) (ok_emit_Code_Finish H8 c13) (by generalize x9.Code_ = qp0; generalize x9.Proc_.frame_ = qp1; cases qp0 <;> cases qp1 <;> kernel_rfl) (by generalize x9.Code_ = qp0; generalize x9.Proc_.frame_ = qp1; cases qp0 <;> cases qp1 <;> kernel_rfl)) ?_
  refine o_run 6 ⟨[E3, E2, E7, E8, (17, .tup [.agg [(.top, .junk), (.top, .junk), (.top, .junk)], .one .top (.int .i64 r12)]), E10, E11, E12, (21, .one .top (Ptr.av x9.Code_)), (22, .tup [.agg [(.top, .junk), (.top, .junk), (.top, .junk)], .one .top (.int .i64 r12)]), (23, .agg [(.top, .junk), (.top, .junk), (.top, .junk)]), (24, .one .top (.int .i64 r12))], [B9], H14⟩ (by kernel_rfl) (by generalize x9.Code_ = qp0; cases qp0 <;> kernel_rfl) ?_
  exact o_end (by kernel_rfl) (by kernel_rfl)
  refine w_seq ?_
  refine w_seq ?_
  refine w_reg ⟨[E2, E7, (26, .one .top (.bool (r12 != 0)))], [B9], H14⟩ (by kernel_rfl) ?_
  rcases if_inv hF with ⟨h15, hF⟩ | ⟨h15, hF⟩
  refine w_cT (m := .top) h15 (s1 := (⟨[], [], H14⟩ : St)) (by kernel_rfl) (by kernel_rfl) ?_
  refine w_seq ?_
  refine w_reg S81 (by kernel_rfl) ?_
  refine w_ret ?_
  obtain ⟨e0, e1, e2⟩ := some3_inv hF
  subst e0
  subst e1
  subst e2
  exact fin_imp (v := .tup [.one (.own 1) (.sl 1 (List.map (eI .u32) ([] : List Int))), .one .top (.bool false)]) (by kernel_rfl) (by kernel_rfl) (by kernel_rfl)
  refine w_cF (m := .top) h15 (s1 := (⟨[E2, E7], [B9], H14⟩ : St)) (by kernel_rfl) (by kernel_rfl) ?_
  refine w_skip ?_
  refine w_seq ?_
  obtain ⟨v16, h17, hF⟩ := bind1_inv hF
  let E15 : EN := (8, .one (.own 1) (.sl 1 (List.map (eI .u32) v16)))
  refine w_regO ⟨[E2, E7, E15], [B9], H14⟩ ?_ ?_
  refine o_run 3 ⟨[E2, E7, (27, .one (.own 1) (.sl 1 (List.map (eI .u32) ([] : List Int)))), E16, E17], [B9], H14⟩ (by kernel_rfl) (by kernel_rfl) ?_
  refine o_one ⟨[E2, E7, E18, E16, E17, (30, .one (.own 1) (.sl 1 (List.map (eI .u32) v16)))], [B9], H14⟩ (st_app (X := X) (⟨[E2, E7, E18, E16, E17], [B9], H14⟩ : St) 4 h17 42 42 35 1 0 [(.top, .int .u32 0)] .bl (eI .u32) 9 (some 30) (by kernel_rfl) (by kernel_rfl) (by kernel_rfl) (by kernel_rfl) (by kernel_rfl) (by kernel_rfl) (by kernel_rfl) (by kernel_rfl) (depth_flat rfl fun _ => rfl) (fun _ => rfl) (by kernel_rfl)) ?_
  refine o_run 1 ⟨[E2, E7, E15, E18, E16, E17, (30, .one .top .junk)], [B9], H14⟩ (by kernel_rfl) (by kernel_rfl) ?_
  exact o_end (by kernel_rfl) (by kernel_rfl)
  refine w_seq ?_
  refine w_seq ?_
  refine w_reg ⟨[E2, E7, E15, (9, .one .top (.int .i64 0))], [B9], H14⟩ (by kernel_rfl) ?_
  refine w_block ?_
  obtain ⟨r39, hL40, hF⟩ := bind1_inv hF
  refine w_loop (fun (x : ((List Int) × Int)) => (⟨[E2, E7, (8, .one (.own 1) (.sl 1 (List.map (eI .u32) x.1))), (9, .one .top (.int .i64 x.2))], [B9], H14⟩ : St)) (Sum.elim (fun (y : ((List Int))) => ((.exit 0, (⟨[(8, .one (.own 1) (.sl 1 (List.map (eI .u32) y)))], [], H14⟩ : St)) : Ex × St)) (fun (y : Unit) => ((.ret, S81) : Ex × St))) hL40 (by kernel_rfl) ?_ ?_
  rintro ⟨a18, a19⟩ o hF
  replace hF : law19_ended_L1 r11 p1 a18 a19 = some o := hF
  let E19 : EN := (8, .one (.own 1) (.sl 1 (List.map (eI .u32) a18)))
  let E20 : EN := (9, .one .top (.int .i64 a19))
  let E21 : EN := (35, .one .top (.bool (decide (a19 < (r11.Fixups_.length : Int)))))
  let E22 : EN := (31, .one .top (.int .i64 a19))
  let E30 : EN := (40, .one .top (.int .i64 a19))
  let E39 : EN := (50, .one .bl (.sl 1 (List.map (eI .u32) a18)))
  let E40 : EN := (51, .one .top (.int .i64 (a18.length : Int)))
  let E42 : EN := (54, .one .bl (.sl 1 (List.map (eI .u32) a18)))
  let E43 : EN := (55, .one .top (.int .i64 (a18.length : Int)))
  let E46 : EN := (68, .one .top (.at_ (.tmp 8) 0 ((List.map (eI .u32) a18).length)))
  let E49 : EN := (71, .one .bl (.sl 1 (List.map (eI .u32) a18)))
  let E75 : EN := (11, .one .top (.int .i64 (IntKind.wrap .i64 ((IntKind.wrap .i64 (4 * (a18.length : Int))) + p1))))
  let E76 : EN := (63, .one .bl (.sl 1 (List.map (eI .u32) a18)))
  let E77 : EN := (64, .one .top (.int .i64 (a18.length : Int)))
  let S82 : St := ⟨[E2, E7, E19, E20, E22, E23, E24], [B9], H14⟩
  let S84 : St := ⟨[E2, E7, E19, E20, E28, E29, E30], [B9], H14⟩
  unfold law19_ended_L1 at hF
  refine w_seq ?_
  refine w_seq ?_
  refine w_regO ⟨[E2, E7, E19, E20, E21], [B9], H14⟩ ?_ ?_
  refine o_run 3 S82 (by kernel_rfl) (by kernel_rfl) ?_
  refine o_one ⟨[E2, E7, E19, E20, E22, E23, E24, E25], [B9], H14⟩ (st_len S82 r11.Fixups_ e_api_Fixup (some 34) (by kernel_rfl) (by kernel_rfl)) ?_
  refine o_run 1 ⟨[E2, E7, E19, E20, E22, E23, E24, E25, E21], [B9], H14⟩ (by kernel_rfl) (by kernel_rfl) ?_
  exact o_end (by kernel_rfl) (by kernel_rfl)
  rcases if_inv hF with ⟨h20, hF⟩ | ⟨h20, hF⟩
  refine w_cT (m := .top) h20 (s1 := (⟨[E2, E7, E19, E20], [B9], H14⟩ : St)) (by kernel_rfl) (by kernel_rfl) ?_
  refine w_skip ?_
  refine w_seq ?_
  refine w_block ?_
  refine w_seq ?_
  obtain ⟨x21, h22, hF⟩ := bind1_inv hF
  let B27 : EB := (10, (m0_api_Fixup x21))
  let E31 : EN := (41, .one .top (.rd .bl .bl [.int .i64 x21.At_, .int .i64 x21.Kind_, .int .i64 x21.Module_, .int .i64 x21.Value_] 0))
  let E33 : EN := (44, .one .top (.int .i64 x21.At_))
  let E37 : EN := (48, .one .top (.int .i64 x21.At_))
  let E38 : EN := (49, .one .top (.int .i64 (IntKind.wrap .i64 (x21.At_ + 1))))
  let E41 : EN := (11, .one .top (.int .i64 (IntKind.wrap .i64 ((IntKind.wrap .i64 (4 * (a18.length : Int))) + x21.Value_))))
  let E48 : EN := (70, .one .top (.int .i64 x21.At_))
  let E51 : EN := (73, .one .top (.int .i64 x21.At_))
  let E58 : EN := (80, .one .top (.el (.tmp 8) (Int.toNat x21.At_) 0))
  let E62 : EN := (83, .one .top (.int .i64 x21.At_))
  let E63 : EN := (84, .one .top (.int .i64 (IntKind.wrap .i64 (x21.At_ + 1))))
  let E66 : EN := (87, .one .top (.int .i64 x21.At_))
  let E67 : EN := (88, .one .top (.int .i64 (IntKind.wrap .i64 (x21.At_ + 1))))
  let E74 : EN := (95, .one .top (.el (.tmp 8) (Int.toNat (IntKind.wrap .i64 (x21.At_ + 1))) 0))
  let S83 : St := ⟨[E2, E7, E19, E20, E26], [B9, B27], H14⟩
  let S85 : St := ⟨[E2, E7, E19, E20, E26, E32, E33, E34, E35, E36, E37, E38, E39], [B9, B27], H14⟩
  let S86 : St := ⟨[E2, E7, E19, E20, E26, E41], [B9, B27], H14⟩
  let S87 : St := ⟨[E2, E7, E19, E20, E26, E42], [B9, B27], H14⟩
  let S94 : St := ⟨[E2, E7, E19, E20, E26, E76], [B9, B27], H14⟩
  refine w_regO S83 ?_ ?_
  refine o_run 3 S84 (by kernel_rfl) (by kernel_rfl) ?_
  refine o_one ⟨[E2, E7, E19, E20, E28, E29, E30, E31], [B9], H14⟩ (st_ix (X := X) S84 128 135 4 h22 e_api_Fixup .bl (some 41) (by kernel_rfl) (by kernel_rfl) (by kernel_rfl) (by kernel_rfl)) ?_
  refine o_run 3 ⟨[E2, E7, E19, E20, E26, E28, E29, E30, E31, (42, .agg (m0_api_Fixup x21))], [B9, B27], H14⟩ (by kernel_rfl) (by kernel_rfl) ?_
  exact o_end (by kernel_rfl) (by kernel_rfl)
  refine w_seq ?_
  refine w_seq ?_
  refine w_regO ⟨[E2, E7, E19, E20, E26, (53, .one .top (.bool ((decide (x21.At_ < 0)) || (decide ((IntKind.wrap .i64 (x21.At_ + 1)) ≥ (a18.length : Int))))))], [B9, B27], H14⟩ ?_ ?_
  refine o_run 4 ⟨[E2, E7, E19, E20, E26, E32, E33, (45, .one .top (.bool (decide (x21.At_ < 0)))), (46, .one .top (.bool (decide (x21.At_ < 0))))], [B9, B27], H14⟩ (by kernel_rfl) (by kernel_rfl) ?_
  rcases bool_cases (decide (x21.At_ < 0)) with h23 | h23
  refine o_eq (congrArg (fun q => (⟨[E2, E7, E19, E20, E26, E32, E33, (45, .one .top (.bool q)), (46, .one .top (.bool q))], [B9, B27], H14⟩ : St)) h23) ?_
  refine o_run 7 ⟨[E2, E7, E19, E20, E26, E32, E33, (45, .one .top (.bool true)), (46, .one .top (.bool true)), (47, .tup []), (48, .tup []), (49, .tup []), (50, .tup []), (51, .tup []), (52, .tup []), (53, .one .top (.bool true))], [B9, B27], H14⟩ (by kernel_rfl) (by kernel_rfl) ?_
  refine o_eq2 (congrArg (fun q0 => (⟨[E2, E7, E19, E20, E26, (53, .one .top (.bool q0))], [B9, B27], H14⟩ : St)) (show true = ((decide (x21.At_ < 0)) || (decide ((IntKind.wrap .i64 (x21.At_ + 1)) ≥ (a18.length : Int)))) by simp [h23])) ?_
  exact o_end (by kernel_rfl) (by kernel_rfl)
  refine o_eq (congrArg (fun q => (⟨[E2, E7, E19, E20, E26, E32, E33, (45, .one .top (.bool q)), (46, .one .top (.bool q))], [B9, B27], H14⟩ : St)) h23) ?_
  refine o_run 4 S85 (by kernel_rfl) (by kernel_rfl) ?_
  refine o_one ⟨[E2, E7, E19, E20, E26, E32, E33, E34, E35, E36, E37, E38, E39, E40], [B9, B27], H14⟩ (st_len S85 a18 (eI .u32) (some 51) (by kernel_rfl) (by kernel_rfl)) ?_
  refine o_run 2 ⟨[E2, E7, E19, E20, E26, E32, E33, E34, E35, E36, E37, E38, E39, E40, (52, .one .top (.bool (decide ((IntKind.wrap .i64 (x21.At_ + 1)) ≥ (a18.length : Int))))), (53, .one .top (.bool (decide ((IntKind.wrap .i64 (x21.At_ + 1)) ≥ (a18.length : Int)))))], [B9, B27], H14⟩ (by kernel_rfl) (by kernel_rfl) ?_
  refine o_eq2 (congrArg (fun q0 => (⟨[E2, E7, E19, E20, E26, (53, .one .top (.bool q0))], [B9, B27], H14⟩ : St)) (show (decide ((IntKind.wrap .i64 (x21.At_ + 1)) ≥ (a18.length : Int))) = ((decide (x21.At_ < 0)) || (decide ((IntKind.wrap .i64 (x21.At_ + 1)) ≥ (a18.length : Int)))) by simp [h23])) ?_
  exact o_end (by kernel_rfl) (by kernel_rfl)
  rcases if_inv hF with ⟨h24, hF⟩ | ⟨h24, hF⟩
  refine w_cT (m := .top) h24 (s1 := (⟨[], [], H14⟩ : St)) (by kernel_rfl) (by kernel_rfl) ?_
  refine w_seq ?_
  refine w_reg S81 (by kernel_rfl) ?_
  refine w_ret ?_
  cases hF
  exact ⟨_, rfl, (by kernel_rfl)⟩
  refine w_cF (m := .top) h24 (s1 := S83) (by kernel_rfl) (by kernel_rfl) ?_
  refine w_skip ?_
  refine w_seq ?_
  refine w_regO S86 ?_ ?_
  refine o_run 1 S87 (by kernel_rfl) (by kernel_rfl) ?_
  refine o_one ⟨[E2, E7, E19, E20, E26, E42, E43], [B9, B27], H14⟩ (st_len S87 a18 (eI .u32) (some 55) (by kernel_rfl) (by kernel_rfl)) ?_
  refine o_run 5 ⟨[E2, E7, E19, E20, E26, E41, E42, E43, (56, .one .top (.int .i64 (IntKind.wrap .i64 (4 * (a18.length : Int))))), (57, .one .top (.loc 10 3)), (58, .one .top (.int .i64 x21.Value_)), (59, .one .top (.int .i64 (IntKind.wrap .i64 ((IntKind.wrap .i64 (4 * (a18.length : Int))) + x21.Value_))))], [B9, B27], H14⟩ (by kernel_rfl) (by kernel_rfl) ?_
  exact o_end (by kernel_rfl) (by kernel_rfl)
  refine w_seq ?_
  refine w_seq ?_
  refine w_reg ⟨[E2, E7, E19, E20, E26, E41, (62, .one .top (.bool (x21.Kind_ == 4)))], [B9, B27], H14⟩ (by kernel_rfl) ?_
  refine w_join (α := (Int)) (fun x => (⟨[E2, E7, E19, E20, E26, (11, .one .top (.int .i64 x))], [B9, B27], H14⟩ : St)) (fun x => law19_ended_j2 a18 x21 a19 x = some o) ?_ ?_
  rintro j25 hF
  replace hF : law19_ended_j2 a18 x21 a19 j25 = some o := hF
  let E45 : EN := (11, .one .top (.int .i64 j25))
  let E53 : EN := (76, .one .top (.int .i64 j25))
  let E54 : EN := (77, .one .top (.int .i64 (Int.fdiv j25 (2 ^ 16))))
  let E55 : EN := (78, .one .top (.int .u32 (IntKind.wrap .u32 (Int.fdiv j25 (2 ^ 16)))))
  let E69 : EN := (91, .one .top (.int .i64 j25))
  let E70 : EN := (92, .one .top (.int .i64 (bitsOf .and .i64 j25 65535)))
  let E71 : EN := (93, .one .top (.int .u32 (IntKind.wrap .u32 (bitsOf .and .i64 j25 65535))))
  let S88 : St := ⟨[E2, E7, E19, E20, E26, E45, E46, E47, E48, E49, E50, E51], [B9, B27], H14⟩
  unfold law19_ended_j2 at hF
  refine w_seq ?_
  obtain ⟨x26, h27, hF⟩ := bind1_inv hF
  let E52 : EN := (74, .one .top (.rd .bl .bl [.int .u32 x26] 0))
  let E56 : EN := (75, .one .top (.int .u32 x26))
  let E57 : EN := (79, .one .top (.int .u32 (bitsOf .or .u32 x26 (IntKind.wrap .u32 (Int.fdiv j25 (2 ^ 16))))))
  let S89 : St := ⟨[E2, E7, E19, E20, E26, E45, E46, E47, E48, E49, E50, E51, E52, E56, E53, E54, E55, E57], [B9, B27], H14⟩
  let S90 : St := ⟨[E2, E7, E19, E20, E26, E45, E46, E47, E48, E49, E50, E51, E52, E56, E53, E54, E55, E57, E58], [B9, B27], H14⟩
  obtain ⟨x28, h29, hF⟩ := bind1_inv hF
  obtain ⟨v30, h31, hF⟩ := bind1_inv hF
  let E44 : EN := (8, .one (.own 1) (.sl 1 (List.map (eI .u32) v30)))
  let E60 : EN := (81, .one .top (.at_ (.tmp 8) 0 ((List.map (eI .u32) v30).length)))
  let E64 : EN := (85, .one .bl (.sl 1 (List.map (eI .u32) v30)))
  let S91 : St := ⟨[E2, E7, E44, E20, E26, E45, E60, E61, E62, E63, E64, E65, E66, E67], [B9, B27], H14⟩
  refine w_regD (.take 0 (.take 1 (.take 2 (.take 3 (.take 4 (.take 5 (.take 6 (.take 8 (.take 9 (.take 10 (.last 7 (.take 11 (.take 12 (.last 13 .done)))))))))))))) (by kernel_rfl) (⟨[E2, E7, E44, E20, E26, E45], [B9, B27], H14⟩ : St) ?_ ?_
  refine d_take ⟨[E2, E7, E19, E20, E26, E45, E46], [B9, B27], H14⟩ (by kernel_rfl) ?_
  refine d_take ⟨[E2, E7, E19, E20, E26, E45, E46, E47], [B9, B27], H14⟩ (by kernel_rfl) ?_
  refine d_take ⟨[E2, E7, E19, E20, E26, E45, E46, E47, E48], [B9, B27], H14⟩ (by kernel_rfl) ?_
  refine d_take ⟨[E2, E7, E19, E20, E26, E45, E46, E47, E48, E49], [B9, B27], H14⟩ (by kernel_rfl) ?_
  refine d_take ⟨[E2, E7, E19, E20, E26, E45, E46, E47, E48, E49, E50], [B9, B27], H14⟩ (by kernel_rfl) ?_
  refine d_take S88 (by kernel_rfl) ?_
  refine d_take ⟨[E2, E7, E19, E20, E26, E45, E46, E47, E48, E49, E50, E51, E52], [B9, B27], H14⟩ (st_ix (X := X) S88 42 35 1 h27 (eI .u32) .bl (some 74) (by kernel_rfl) (by kernel_rfl) (by kernel_rfl) (by kernel_rfl)) ?_
  refine d_take ⟨[E2, E7, E19, E20, E26, E45, E46, E47, E48, E49, E50, E51, E52, E53], [B9, B27], H14⟩ (by kernel_rfl) ?_
  refine d_take ⟨[E2, E7, E19, E20, E26, E45, E46, E47, E48, E49, E50, E51, E52, E53, E54], [B9, B27], H14⟩ (by kernel_rfl) ?_
  refine d_take ⟨[E2, E7, E19, E20, E26, E45, E46, E47, E48, E49, E50, E51, E52, E53, E54, E55], [B9, B27], H14⟩ (by kernel_rfl) ?_
  refine d_last ⟨[E2, E7, E19, E20, E26, E45, E46, E47, E48, E49, E50, E51, E52, E56, E53, E54, E55], [B9, B27], H14⟩ (by kernel_rfl) ?_
  refine d_take S89 (by kernel_rfl) ?_
  refine d_take S90 (st_ixA (X := X) S89 42 35 1 h29 (eI .u32) (.tmp 8) 0 (List.map (eI .u32) a18).length 0 (some 80) (by kernel_rfl) (by kernel_rfl) (by kernel_rfl) (by kernel_rfl) rfl (List.length_map _) (by kernel_rfl)) ?_
  refine d_last ⟨[E2, E7, E44, E20, E26, E45, E46, E47, E48, (71, .one .top .junk), E50, E51, (74, .one .top .junk), E56, E53, E54, E55, E57, E58], [B9, B27], H14⟩ (st_stE (X := X) S90 (⟨[E2, E7, E44, E20, E26, E45, E46, E47, E48, E49, E50, E51, E52, E56, E53, E54, E55, E57, E58], [B9, B27], H14⟩ : St) ⟨true, [6, 10]⟩ 35 (.tmp 8) (Int.toNat x21.At_) 0 1 0 (List.map (eI .u32) a18) [.int .u32 x28] ((eI .u32) (bitsOf .or .u32 x26 (IntKind.wrap .u32 (Int.fdiv j25 (2 ^ 16))))) (List.map (eI .u32) v30) 1 (.one .top (.int .u32 (bitsOf .or .u32 x26 (IntKind.wrap .u32 (Int.fdiv j25 (2 ^ 16)))))) (by kernel_rfl) (by kernel_rfl) (by kernel_rfl) (by kernel_rfl) (by kernel_rfl) (by kernel_rfl) (el_at h29) (by kernel_rfl) (by kernel_rfl) (el_put h31) (by kernel_rfl) (by kernel_rfl)) ?_
  exact d_end (by kernel_rfl)
  obtain ⟨x32, h33, hF⟩ := bind1_inv hF
  let E68 : EN := (89, .one .top (.rd .bl .bl [.int .u32 x32] 0))
  let E72 : EN := (90, .one .top (.int .u32 x32))
  let E73 : EN := (94, .one .top (.int .u32 (bitsOf .or .u32 x32 (IntKind.wrap .u32 (bitsOf .and .i64 j25 65535)))))
  let S92 : St := ⟨[E2, E7, E44, E20, E26, E45, E60, E61, E62, E63, E64, E65, E66, E67, E68, E72, E69, E70, E71, E73], [B9, B27], H14⟩
  let S93 : St := ⟨[E2, E7, E44, E20, E26, E45, E60, E61, E62, E63, E64, E65, E66, E67, E68, E72, E69, E70, E71, E73, E74], [B9, B27], H14⟩
  obtain ⟨x34, h35, hF⟩ := bind1_inv hF
  obtain ⟨v36, h37, hF⟩ := bind1_inv hF
  let E59 : EN := (8, .one (.own 1) (.sl 1 (List.map (eI .u32) v36)))
  refine w_regD (.take 0 (.take 1 (.take 2 (.take 3 (.take 4 (.take 5 (.take 6 (.take 7 (.take 8 (.take 10 (.take 11 (.take 12 (.last 9 (.take 13 (.take 14 (.last 15 .done)))))))))))))))) (by kernel_rfl) (⟨[E2, E7, E59, E20], [B9], H14⟩ : St) ?_ ?_
  refine d_take ⟨[E2, E7, E44, E20, E26, E45, E60], [B9, B27], H14⟩ (by kernel_rfl) ?_
  refine d_take ⟨[E2, E7, E44, E20, E26, E45, E60, E61], [B9, B27], H14⟩ (by kernel_rfl) ?_
  refine d_take ⟨[E2, E7, E44, E20, E26, E45, E60, E61, E62], [B9, B27], H14⟩ (by kernel_rfl) ?_
  refine d_take ⟨[E2, E7, E44, E20, E26, E45, E60, E61, E62, E63], [B9, B27], H14⟩ (by kernel_rfl) ?_
  refine d_take ⟨[E2, E7, E44, E20, E26, E45, E60, E61, E62, E63, E64], [B9, B27], H14⟩ (by kernel_rfl) ?_
  refine d_take ⟨[E2, E7, E44, E20, E26, E45, E60, E61, E62, E63, E64, E65], [B9, B27], H14⟩ (by kernel_rfl) ?_
  refine d_take ⟨[E2, E7, E44, E20, E26, E45, E60, E61, E62, E63, E64, E65, E66], [B9, B27], H14⟩ (by kernel_rfl) ?_
  refine d_take S91 (by kernel_rfl) ?_
  refine d_take ⟨[E2, E7, E44, E20, E26, E45, E60, E61, E62, E63, E64, E65, E66, E67, E68], [B9, B27], H14⟩ (st_ix (X := X) S91 42 35 1 h33 (eI .u32) .bl (some 89) (by kernel_rfl) (by kernel_rfl) (by kernel_rfl) (by kernel_rfl)) ?_
  refine d_take ⟨[E2, E7, E44, E20, E26, E45, E60, E61, E62, E63, E64, E65, E66, E67, E68, E69], [B9, B27], H14⟩ (by kernel_rfl) ?_
  refine d_take ⟨[E2, E7, E44, E20, E26, E45, E60, E61, E62, E63, E64, E65, E66, E67, E68, E69, E70], [B9, B27], H14⟩ (by kernel_rfl) ?_
  refine d_take ⟨[E2, E7, E44, E20, E26, E45, E60, E61, E62, E63, E64, E65, E66, E67, E68, E69, E70, E71], [B9, B27], H14⟩ (by kernel_rfl) ?_
  refine d_last ⟨[E2, E7, E44, E20, E26, E45, E60, E61, E62, E63, E64, E65, E66, E67, E68, E72, E69, E70, E71], [B9, B27], H14⟩ (by kernel_rfl) ?_
  refine d_take S92 (by kernel_rfl) ?_
  refine d_take S93 (st_ixA (X := X) S92 42 35 1 h35 (eI .u32) (.tmp 8) 0 (List.map (eI .u32) v30).length 0 (some 95) (by kernel_rfl) (by kernel_rfl) (by kernel_rfl) (by kernel_rfl) rfl (List.length_map _) (by kernel_rfl)) ?_
  refine d_last ⟨[E2, E7, E59, E20, E26, E45, E60, E61, E62, E63, (85, .one .top .junk), E65, E66, E67, (89, .one .top .junk), E72, E69, E70, E71, E73, E74], [B9, B27], H14⟩ (st_stE (X := X) S93 (⟨[E2, E7, E59, E20, E26, E45, E60, E61, E62, E63, E64, E65, E66, E67, E68, E72, E69, E70, E71, E73, E74], [B9, B27], H14⟩ : St) ⟨true, [6, 10]⟩ 35 (.tmp 8) (Int.toNat (IntKind.wrap .i64 (x21.At_ + 1))) 0 1 0 (List.map (eI .u32) v30) [.int .u32 x34] ((eI .u32) (bitsOf .or .u32 x32 (IntKind.wrap .u32 (bitsOf .and .i64 j25 65535)))) (List.map (eI .u32) v36) 1 (.one .top (.int .u32 (bitsOf .or .u32 x32 (IntKind.wrap .u32 (bitsOf .and .i64 j25 65535))))) (by kernel_rfl) (by kernel_rfl) (by kernel_rfl) (by kernel_rfl) (by kernel_rfl) (by kernel_rfl) (el_at h35) (by kernel_rfl) (by kernel_rfl) (el_put h37) (by kernel_rfl) (by kernel_rfl)) ?_
  exact d_end (by kernel_rfl)
  refine w_reg ⟨[E2, E7, E59, (9, .one .top (.int .i64 (IntKind.wrap .i64 (a19 + 1))))], [B9], H14⟩ (by kernel_rfl) ?_
  cases hF
  exact ⟨_, rfl, (by kernel_rfl)⟩
  rcases if_inv hF with ⟨h38, hF⟩ | ⟨h38, hF⟩
  refine w_cT (m := .top) h38 (s1 := S83) (by kernel_rfl) (by kernel_rfl) ?_
  refine w_regO ⟨[E2, E7, E19, E20, E26, E75], [B9, B27], H14⟩ ?_ ?_
  refine o_run 1 S94 (by kernel_rfl) (by kernel_rfl) ?_
  refine o_one ⟨[E2, E7, E19, E20, E26, E76, E77], [B9, B27], H14⟩ (st_len S94 a18 (eI .u32) (some 64) (by kernel_rfl) (by kernel_rfl)) ?_
  refine o_run 4 ⟨[E2, E7, E19, E20, E26, E75, E76, E77, (65, .one .top (.int .i64 (IntKind.wrap .i64 (4 * (a18.length : Int))))), (66, .one .top (.int .i64 p1)), (67, .one .top (.int .i64 (IntKind.wrap .i64 ((IntKind.wrap .i64 (4 * (a18.length : Int))) + p1))))], [B9, B27], H14⟩ (by kernel_rfl) (by kernel_rfl) ?_
  exact o_end (by kernel_rfl) (by kernel_rfl)
  exact ⟨(IntKind.wrap .i64 ((IntKind.wrap .i64 (4 * (a18.length : Int))) + p1)), hF, (by kernel_rfl)⟩
  refine w_cF (m := .top) h38 (s1 := S86) (by kernel_rfl) (by kernel_rfl) ?_
  refine w_skip ?_
  exact ⟨(IntKind.wrap .i64 ((IntKind.wrap .i64 (4 * (a18.length : Int))) + x21.Value_)), hF, (by kernel_rfl)⟩
  refine w_cF (m := .top) h20 (s1 := (⟨[E19], [], H14⟩ : St)) (by kernel_rfl) (by kernel_rfl) ?_
  refine w_exit ?_
  cases hF
  exact ⟨_, rfl, (by kernel_rfl)⟩
  rcases sum2_inv hF with ⟨r39', rfl, hF⟩ | ⟨r39', rfl, hF⟩
  obtain ⟨b41, hy⟩ : ∃ y, y = r39' := ⟨_, rfl⟩
  subst hy
  refine w_oe (i := 0) (s := (⟨[(8, .one (.own 1) (.sl 1 (List.map (eI .u32) b41)))], [], H14⟩ : St)) (by kernel_rfl) ?_
  refine e_here ?_
  refine w_seq ?_
  refine w_reg ⟨[(4, .one (.own 1) (.sl 1 (List.map (eI .u32) b41))), (5, .one .top (.bool true))], [], H14⟩ (by kernel_rfl) ?_
  refine w_ret ?_
  obtain ⟨e0, e1, e2⟩ := some3_inv hF
  subst e0
  subst e1
  subst e2
  exact fin_imp (v := .tup [.one (.own 1) (.sl 1 (List.map (eI .u32) b41)), .one .top (.bool true)]) (by kernel_rfl) (by kernel_rfl) (by kernel_rfl)
  refine w_or (s := S81) (by kernel_rfl) ?_
  obtain ⟨e0, e1, e2⟩ := some3_inv hF
  subst e0
  subst e1
  subst e2
  exact fin_imp (v := .tup [.one (.own 1) (.sl 1 (List.map (eI .u32) ([] : List Int))), .one .top (.bool false)]) (by kernel_rfl) (by kernel_rfl) (by kernel_rfl)
noncomputable def ref03_New  (p0 : (Arr 5 Int)) : Option (T_ref03_Mem) :=
  bind1 (mks 4 (IntKind.wrap .u32 (Int.tdiv (p0.g 4) 4)) (IntKind.wrap .u32 (Int.tdiv (p0.g 4) 4)) 0) fun v1 =>
  some (T_ref03_Mem.mk p0 v1)
theorem ok_ref03_New (H : Heap) {p0 : (Arr 5 Int)} {ra : T_ref03_Mem} (hF : ref03_New p0 = some ra) : evS X 79 [.agg (arM .u32 5 p0)] H = some (.agg (m0_ref03_Mem ra), H) := by
  let E1 : EN := (1, .one .top (.loc 1 0))
  let E2 : EN := (2, .one .top (.loc 2 0))
  let B3 : EB := (1, (arM .u32 5 p0))
  let B4 : EB := (2, (List.replicate 5 (.top, .int .u32 0) ++ [((.own 1), .sl 1 (List.map (eI .u32) ([] : List Int)))]))
  let E6 : EN := (3, .agg (arM .u32 5 p0))
  let E7 : EN := (4, .one .top (.loc 1 4))
  let E8 : EN := (5, .one .top (.int .u32 (p0.g 4)))
  let E9 : EN := (6, .one .top (.int .u32 (IntKind.wrap .u32 (Int.tdiv (p0.g 4) 4))))
  let S10 : St := ⟨[E1, E2, E6, E7, E8, E9], [B3, B4], H⟩
  refine w_fun Try.func79 rfl (by kernel_rfl) true (by kernel_rfl) (s0 := (⟨[(0, .agg (arM .u32 5 p0))], [], H⟩ : St)) (by kernel_rfl) ?_
  unfold ref03_New at hF
  refine w_seq ?_
  refine w_reg ⟨[E1, E2], [B3, B4], H⟩ (by kernel_rfl) ?_
  refine w_seq ?_
  obtain ⟨v1, h2, hF⟩ := bind1_inv hF
  let B5 : EB := (2, (arM .u32 5 p0 ++ [((.own 1), .sl 1 (List.map (eI .u32) v1))]))
  refine w_regD (.take 0 (.take 1 (.take 2 (.take 3 (.last 4 (.take 5 (.last 6 .done))))))) (by kernel_rfl) (⟨[E2], [B5], H⟩ : St) ?_ ?_
  refine d_take ⟨[E1, E2, E6], [B3, B4], H⟩ (by kernel_rfl) ?_
  refine d_take ⟨[E1, E2, E6, E7], [B3, B4], H⟩ (by kernel_rfl) ?_
  refine d_take ⟨[E1, E2, E6, E7, E8], [B3, B4], H⟩ (by kernel_rfl) ?_
  refine d_take S10 (by kernel_rfl) ?_
  refine d_last ⟨[E1, E2, E6, E7, E8, E9, (7, .one (.own 1) (.sl 1 (List.map (eI .u32) v1)))], [B3, B4], H⟩ (st_mk (X := X) S10 4 h2 42 35 1 [(.top, .int .u32 0)] (eI .u32) 0 (.u32) (.u32) (some 7) (by kernel_rfl) (by kernel_rfl) (by kernel_rfl) (by kernel_rfl) (by kernel_rfl) (by kernel_rfl) (by kernel_rfl) (by kernel_rfl) (by kernel_rfl) (by kernel_rfl)) ?_
  refine d_take ⟨[E1, E2, E6, E7, E8, E9, (7, .one .top .junk), (8, .agg (arM .u32 5 p0 ++ [((.own 1), .sl 1 (List.map (eI .u32) v1))]))], [B3, B4], H⟩ (by kernel_rfl) ?_
  refine d_last ⟨[E1, E2, E6, E7, E8, E9, (7, .one .top .junk), (8, .agg (arM .u32 5 p0 ++ [(.top, .junk)]))], [B3, B5], H⟩ (by kernel_rfl) ?_
  exact d_end (by kernel_rfl)
  refine w_ret ?_
  obtain e0 := some1_inv hF
  subst e0
  exact fin_pure (v := .agg (arM .u32 5 p0 ++ [((.own 1), .sl 1 (List.map (eI .u32) v1))])) (by kernel_rfl) (by kernel_rfl) rfl (by kernel_rfl)
noncomputable def ref03_with_L1 (p2 : (List Int)) (p1 : Int) (a5 : (List Int)) (a6 : Int) : Option (((List Int) × Int) ⊕ (((List Int)))) :=
  if (decide (a6 < (p2.length : Int))) = true then (bind1 (gi p2 a6) fun x8 =>
  bind1 (gi a5 (IntKind.wrap .i64 (p1 + a6))) fun x10 =>
  bind1 (si a5 (IntKind.wrap .i64 (p1 + a6)) x8) fun v12 =>
  some (Sum.inl (v12, (IntKind.wrap .i64 (a6 + 1)))))
  else (some (Sum.inr a5))
noncomputable def ref03_with  (p0 : T_ref03_Mem) (p1 : Int) (p2 : (List Int)) : Option (T_ref03_Mem) :=
  bind1 (mks 4 (p0.W_.length : Int) (p0.W_.length : Int) 0) fun v1 =>
  bnd (cpy v1 0 p0.W_) fun v3 =>
  bind1 (loopO (fun (x : ((List Int) × Int)) => ref03_with_L1 p2 p1 x.1 x.2) (v3, 0)) (fun b16 =>
  some (T_ref03_Mem.mk p0.Ends_ b16))
theorem ok_ref03_with (H : Heap) {p0 : T_ref03_Mem} {p1 : Int} {p2 : (List Int)} {ra : T_ref03_Mem} (hF : ref03_with p0 p1 p2 = some ra) : evS X 94 [.agg (m0_ref03_Mem p0), .one .top (.int .i64 p1), .one .ro (.sl 1 (List.map (eI .u32) p2))] H = some (.agg (m0_ref03_Mem ra), H) := by
  let E1 : EN := (1, .one .top (.int .i64 p1))
  let E2 : EN := (2, .one .ro (.sl 1 (List.map (eI .u32) p2)))
  let E3 : EN := (3, .one .top (.loc 3 0))
  let E4 : EN := (6, .one .top (.loc 6 0))
  let B5 : EB := (3, (m0_ref03_Mem p0))
  let B6 : EB := (6, (List.replicate 5 (.top, .int .u32 0) ++ [((.own 1), .sl 1 (List.map (eI .u32) ([] : List Int)))]))
  let E8 : EN := (9, .one .top (.loc 3 5))
  let E9 : EN := (10, .one (.own 0) (.sl 1 (List.map (eI .u32) p0.W_)))
  let E10 : EN := (11, .one .top (.int .i64 (p0.W_.length : Int)))
  let E13 : EN := (14, .one .top (.loc 3 5))
  let E14 : EN := (15, .one (.own 0) (.sl 1 (List.map (eI .u32) p0.W_)))
  let E19 : EN := (18, .one .ro (.sl 1 (List.map (eI .u32) p2)))
  let E20 : EN := (19, .one .top (.int .i64 (p2.length : Int)))
  let E23 : EN := (24, .one .top (.int .i64 p1))
  let E26 : EN := (27, .one .ro (.sl 1 (List.map (eI .u32) p2)))
  let S31 : St := ⟨[E1, E2, E3, E4, E8, E9], [B5, B6], H⟩
  let S32 : St := ⟨[E1, E2, E3, E4, E8, E9, E10], [B5, B6], H⟩
  refine w_fun Try.func94 rfl (by kernel_rfl) true (by kernel_rfl) (s0 := (⟨[(0, .agg (m0_ref03_Mem p0)), E1, E2], [], H⟩ : St)) (by kernel_rfl) ?_
  unfold ref03_with at hF
  refine w_seq ?_
  refine w_reg ⟨[E1, E2, E3, E4], [B5, B6], H⟩ (by kernel_rfl) ?_
  refine w_seq ?_
  obtain ⟨v1, h2, hF⟩ := bind1_inv hF
  let E7 : EN := (7, .one (.own 1) (.sl 1 (List.map (eI .u32) v1)))
  let E12 : EN := (13, .one .top (.at_ (.tmp 7) 0 ((List.map (eI .u32) v1).length)))
  let S33 : St := ⟨[E1, E2, E3, E4, E7, E12, E13, E14], [B5, B6], H⟩
  refine w_regO ⟨[E1, E2, E3, E4, E7], [B5, B6], H⟩ ?_ ?_
  refine o_run 2 S31 (by kernel_rfl) (by kernel_rfl) ?_
  refine o_one S32 (st_len S31 p0.W_ (eI .u32) (some 11) (by kernel_rfl) (by kernel_rfl)) ?_
  refine o_one ⟨[E1, E2, E3, E4, E8, E9, E10, (12, .one (.own 1) (.sl 1 (List.map (eI .u32) v1)))], [B5, B6], H⟩ (st_mk (X := X) S32 4 h2 42 35 1 [(.top, .int .u32 0)] (eI .u32) 0 (.i64) (.i64) (some 12) (by kernel_rfl) (by kernel_rfl) (by kernel_rfl) (by kernel_rfl) (by kernel_rfl) (by kernel_rfl) (by kernel_rfl) (by kernel_rfl) (by kernel_rfl) (by kernel_rfl)) ?_
  refine o_run 1 ⟨[E1, E2, E3, E4, E7, E8, E9, E10, (12, .one .top .junk)], [B5, B6], H⟩ (by kernel_rfl) (by kernel_rfl) ?_
  exact o_end (by kernel_rfl) (by kernel_rfl)
  refine w_seq ?_
  obtain ⟨v3, h4, hF⟩ := bnd_inv hF
  let E11 : EN := (7, .one (.own 1) (.sl 1 (List.map (eI .u32) v3)))
  refine w_regO ⟨[E1, E2, E3, E4, E11], [B5, B6], H⟩ ?_ ?_
  refine o_run 3 S33 (by kernel_rfl) (by kernel_rfl) ?_
  refine o_one ⟨[E1, E2, E3, E4, E11, E12, E13, E14, (16, .one .top (.int .i64 (((min p0.W_.length (v1.length - 0) : Nat)) : Int)))], [B5, B6], H⟩ (st_cpT (X := X) S33 42 35 0 1 (eI .u32) 7 (.own 0) v1 p0.W_ 0 h4 (some 16) ⟨true, []⟩ (Nat.zero_le _) (by kernel_rfl) (by kernel_rfl) (by kernel_rfl) (fun _ => rfl) (fun _ => rfl) (by kernel_rfl) (by kernel_rfl)) ?_
  exact o_end (by kernel_rfl) (by kernel_rfl)
  refine w_seq ?_
  refine w_seq ?_
  refine w_reg ⟨[E1, E2, E3, E4, E11, (8, .one .top (.int .i64 0))], [B5, B6], H⟩ (by kernel_rfl) ?_
  refine w_block ?_
  obtain ⟨r14, hL15, hF⟩ := bind1_inv hF
  refine w_loop (fun (x : ((List Int) × Int)) => (⟨[E1, E2, E3, E4, (7, .one (.own 1) (.sl 1 (List.map (eI .u32) x.1))), (8, .one .top (.int .i64 x.2))], [B5, B6], H⟩ : St)) (fun (y : ((List Int))) => ((.exit 0, (⟨[E3, E4, (7, .one (.own 1) (.sl 1 (List.map (eI .u32) y)))], [B5, B6], H⟩ : St)) : Ex × St)) hL15 (by kernel_rfl) ?_ ?_
  rintro ⟨a5, a6⟩ o hF
  replace hF : ref03_with_L1 p2 p1 a5 a6 = some o := hF
  let E15 : EN := (7, .one (.own 1) (.sl 1 (List.map (eI .u32) a5)))
  let E16 : EN := (8, .one .top (.int .i64 a6))
  let E17 : EN := (20, .one .top (.bool (decide (a6 < (p2.length : Int)))))
  let E18 : EN := (17, .one .top (.int .i64 a6))
  let E22 : EN := (23, .one .top (.at_ (.tmp 7) 0 ((List.map (eI .u32) a5).length)))
  let E24 : EN := (25, .one .top (.int .i64 a6))
  let E25 : EN := (26, .one .top (.int .i64 (IntKind.wrap .i64 (p1 + a6))))
  let E27 : EN := (28, .one .top (.int .i64 a6))
  let E30 : EN := (31, .one .top (.el (.tmp 7) (Int.toNat (IntKind.wrap .i64 (p1 + a6))) 0))
  let S34 : St := ⟨[E1, E2, E3, E4, E15, E16, E18, E19], [B5, B6], H⟩
  let S35 : St := ⟨[E1, E2, E3, E4, E15, E16, E22, E23, E24, E25, E26, E27], [B5, B6], H⟩
  unfold ref03_with_L1 at hF
  refine w_seq ?_
  refine w_seq ?_
  refine w_regO ⟨[E1, E2, E3, E4, E15, E16, E17], [B5, B6], H⟩ ?_ ?_
  refine o_run 2 S34 (by kernel_rfl) (by kernel_rfl) ?_
  refine o_one ⟨[E1, E2, E3, E4, E15, E16, E18, E19, E20], [B5, B6], H⟩ (st_len S34 p2 (eI .u32) (some 19) (by kernel_rfl) (by kernel_rfl)) ?_
  refine o_run 1 ⟨[E1, E2, E3, E4, E15, E16, E18, E19, E20, E17], [B5, B6], H⟩ (by kernel_rfl) (by kernel_rfl) ?_
  exact o_end (by kernel_rfl) (by kernel_rfl)
  rcases if_inv hF with ⟨h7, hF⟩ | ⟨h7, hF⟩
  refine w_cT (m := .top) h7 (s1 := (⟨[E1, E2, E3, E4, E15, E16], [B5, B6], H⟩ : St)) (by kernel_rfl) (by kernel_rfl) ?_
  refine w_skip ?_
  refine w_seq ?_
  refine w_block ?_
  obtain ⟨x8, h9, hF⟩ := bind1_inv hF
  let E28 : EN := (29, .one .top (.rd .ro .ro [.int .u32 x8] 0))
  let E29 : EN := (30, .one .top (.int .u32 x8))
  let S36 : St := ⟨[E1, E2, E3, E4, E15, E16, E22, E23, E24, E25, E26, E27, E28, E29], [B5, B6], H⟩
  let S37 : St := ⟨[E1, E2, E3, E4, E15, E16, E22, E23, E24, E25, E26, E27, E28, E29, E30], [B5, B6], H⟩
  obtain ⟨x10, h11, hF⟩ := bind1_inv hF
  obtain ⟨v12, h13, hF⟩ := bind1_inv hF
  let E21 : EN := (7, .one (.own 1) (.sl 1 (List.map (eI .u32) v12)))
  let S38 : St := ⟨[E1, E2, E3, E4, E21, E16, E22, E23, E24, E25, E26, E27, E28, E29, E30], [B5, B6], H⟩
  refine w_regO ⟨[E1, E2, E3, E4, E21, E16], [B5, B6], H⟩ ?_ ?_
  refine o_run 6 S35 (by kernel_rfl) (by kernel_rfl) ?_
  refine o_one ⟨[E1, E2, E3, E4, E15, E16, E22, E23, E24, E25, E26, E27, E28], [B5, B6], H⟩ (st_ix (X := X) S35 42 35 1 h9 (eI .u32) .ro (some 29) (by kernel_rfl) (by kernel_rfl) (by kernel_rfl) (by kernel_rfl)) ?_
  refine o_run 1 S36 (by kernel_rfl) (by kernel_rfl) ?_
  refine o_one S37 (st_ixA (X := X) S36 42 35 1 h11 (eI .u32) (.tmp 7) 0 (List.map (eI .u32) a5).length 0 (some 31) (by kernel_rfl) (by kernel_rfl) (by kernel_rfl) (by kernel_rfl) rfl (List.length_map _) (by kernel_rfl)) ?_
  refine o_one S38 (st_stE (X := X) S37 S38 ⟨true, []⟩ 35 (.tmp 7) (Int.toNat (IntKind.wrap .i64 (p1 + a6))) 0 1 0 (List.map (eI .u32) a5) [.int .u32 x10] ((eI .u32) x8) (List.map (eI .u32) v12) 1 (.one .top (.int .u32 x8)) (by kernel_rfl) (by kernel_rfl) (by kernel_rfl) (by kernel_rfl) (by kernel_rfl) (by kernel_rfl) (el_at h11) (by kernel_rfl) (by kernel_rfl) (el_put h13) (by kernel_rfl) (by kernel_rfl)) ?_
  exact o_end (by kernel_rfl) (by kernel_rfl)
  refine w_reg ⟨[E1, E2, E3, E4, E21, (8, .one .top (.int .i64 (IntKind.wrap .i64 (a6 + 1))))], [B5, B6], H⟩ (by kernel_rfl) ?_
  cases hF
  exact ⟨_, rfl, (by kernel_rfl)⟩
  refine w_cF (m := .top) h7 (s1 := (⟨[E3, E4, E15], [B5, B6], H⟩ : St)) (by kernel_rfl) (by kernel_rfl) ?_
  refine w_exit ?_
  cases hF
  exact ⟨_, rfl, (by kernel_rfl)⟩
  obtain ⟨b16, hy⟩ : ∃ y, y = r14 := ⟨_, rfl⟩
  subst hy
  refine w_oe (i := 0) (s := (⟨[E3, E4, (7, .one (.own 1) (.sl 1 (List.map (eI .u32) b16)))], [B5, B6], H⟩ : St)) (by kernel_rfl) ?_
  refine e_here ?_
  refine w_seq ?_
  refine w_reg ⟨[E3, E4], [(3, (arM .u32 5 p0.Ends_ ++ [((.own 1), .sl 1 (List.map (eI .u32) b16))])), B6], H⟩ (by kernel_rfl) ?_
  refine w_seq ?_
  refine w_reg ⟨[E4], [(6, (arM .u32 5 p0.Ends_ ++ [((.own 1), .sl 1 (List.map (eI .u32) b16))]))], H⟩ (by kernel_rfl) ?_
  refine w_ret ?_
  obtain e0 := some1_inv hF
  subst e0
  exact fin_pure (v := .agg (arM .u32 5 p0.Ends_ ++ [((.own 1), .sl 1 (List.map (eI .u32) b16))])) (by kernel_rfl) (by kernel_rfl) rfl (by kernel_rfl)
noncomputable def ref03_Fill  (p0 : T_ref03_Mem) (p1 : Int) (p2 : (List Int)) : Option (T_ref03_Mem × Int) :=
  if ((Int.tmod p1 4) != 0) = true then (some (p0, 30))
  else (if (decide ((IntKind.wrap .i64 ((IntKind.wrap .i64 (IntKind.wrap .u32 (Int.tdiv p1 4))) + (p2.length : Int))) > (p0.W_.length : Int))) = true then (some (p0, 31))
  else (bind1 (ref03_with p0 (IntKind.wrap .i64 (IntKind.wrap .u32 (Int.tdiv p1 4))) p2) fun r3 =>
  some (r3, 0)))
theorem ok_ref03_Fill (H : Heap) {p0 : T_ref03_Mem} {p1 : Int} {p2 : (List Int)} {ra : T_ref03_Mem} {rb : Int} (hF : ref03_Fill p0 p1 p2 = some (ra, rb)) : evS X 57 [.agg (m0_ref03_Mem p0), .one .top (.int .u32 p1), .one .ro (.sl 1 (List.map (eI .u32) p2))] H = some (.tup [.agg (m0_ref03_Mem ra), .one .top (.int .i64 rb)], H) := by
  let E1 : EN := (1, .one .top (.int .u32 p1))
  let E2 : EN := (2, .one .ro (.sl 1 (List.map (eI .u32) p2)))
  let E3 : EN := (3, .one .top (.loc 3 0))
  let E4 : EN := (6, .one .top (.loc 6 0))
  let B5 : EB := (3, (m0_ref03_Mem p0))
  let B6 : EB := (6, (List.replicate 5 (.top, .int .u32 0) ++ [((.own 1), .sl 1 (List.map (eI .u32) ([] : List Int)))]))
  let E7 : EN := (21, .one .top (.bool (decide ((IntKind.wrap .i64 ((IntKind.wrap .i64 (IntKind.wrap .u32 (Int.tdiv p1 4))) + (p2.length : Int))) > (p0.W_.length : Int)))))
  let E8 : EN := (12, .one .top (.int .u32 p1))
  let E9 : EN := (13, .one .top (.int .u32 (IntKind.wrap .u32 (Int.tdiv p1 4))))
  let E10 : EN := (14, .one .top (.int .i64 (IntKind.wrap .i64 (IntKind.wrap .u32 (Int.tdiv p1 4)))))
  let E11 : EN := (15, .one .ro (.sl 1 (List.map (eI .u32) p2)))
  let E12 : EN := (16, .one .top (.int .i64 (p2.length : Int)))
  let E13 : EN := (17, .one .top (.int .i64 (IntKind.wrap .i64 ((IntKind.wrap .i64 (IntKind.wrap .u32 (Int.tdiv p1 4))) + (p2.length : Int)))))
  let E14 : EN := (18, .one .top (.loc 3 5))
  let E15 : EN := (19, .one (.own 0) (.sl 1 (List.map (eI .u32) p0.W_)))
  let E16 : EN := (20, .one .top (.int .i64 (p0.W_.length : Int)))
  let E17 : EN := (7, .one .top (.int .i64 0))
  let E18 : EN := (23, .agg (m0_ref03_Mem p0))
  let E19 : EN := (24, .one .top (.int .u32 p1))
  let E20 : EN := (25, .one .top (.int .u32 (IntKind.wrap .u32 (Int.tdiv p1 4))))
  let E21 : EN := (26, .one .top (.int .i64 (IntKind.wrap .i64 (IntKind.wrap .u32 (Int.tdiv p1 4)))))
  let E22 : EN := (27, .one .ro (.sl 1 (List.map (eI .u32) p2)))
  let S24 : St := ⟨[E1, E2, E3, E4], [B5, B6], H⟩
  let S25 : St := ⟨[E3, E4], [B5, B6], H⟩
  let S26 : St := ⟨[E1, E2, E3, E4, E8, E9, E10, E11], [B5, B6], H⟩
  let S27 : St := ⟨[E1, E2, E3, E4, E8, E9, E10, E11, E12, E13, E14, E15], [B5, B6], H⟩
  let S28 : St := ⟨[E1, E2, E3, E4, E18, E19, E20, E21, E22], [B5, B6], H⟩
  refine w_fun Try.func57 rfl (by kernel_rfl) true (by kernel_rfl) (s0 := (⟨[(0, .agg (m0_ref03_Mem p0)), E1, E2], [], H⟩ : St)) (by kernel_rfl) ?_
  unfold ref03_Fill at hF
  refine w_seq ?_
  refine w_reg S24 (by kernel_rfl) ?_
  refine w_seq ?_
  refine w_seq ?_
  refine w_reg ⟨[E1, E2, E3, E4, (10, .one .top (.bool ((Int.tmod p1 4) != 0)))], [B5, B6], H⟩ (by kernel_rfl) ?_
  rcases if_inv hF with ⟨h1, hF⟩ | ⟨h1, hF⟩
  refine w_cT (m := .top) h1 (s1 := S25) (by kernel_rfl) (by kernel_rfl) ?_
  refine w_seq ?_
  refine w_reg ⟨[E4, (7, .one .top (.int .i64 30))], [(6, (m0_ref03_Mem p0))], H⟩ (by kernel_rfl) ?_
  refine w_ret ?_
  obtain ⟨e0, e1⟩ := some2_inv hF
  subst e0
  subst e1
  exact fin_pure (v := .tup [.agg (m0_ref03_Mem p0), .one .top (.int .i64 30)]) (by kernel_rfl) (by kernel_rfl) rfl (by kernel_rfl)
  refine w_cF (m := .top) h1 (s1 := S24) (by kernel_rfl) (by kernel_rfl) ?_
  refine w_skip ?_
  refine w_seq ?_
  refine w_seq ?_
  refine w_regO ⟨[E1, E2, E3, E4, E7], [B5, B6], H⟩ ?_ ?_
  refine o_run 4 S26 (by kernel_rfl) (by kernel_rfl) ?_
  refine o_one ⟨[E1, E2, E3, E4, E8, E9, E10, E11, E12], [B5, B6], H⟩ (st_len S26 p2 (eI .u32) (some 16) (by kernel_rfl) (by kernel_rfl)) ?_
  refine o_run 3 S27 (by kernel_rfl) (by kernel_rfl) ?_
  refine o_one ⟨[E1, E2, E3, E4, E8, E9, E10, E11, E12, E13, E14, E15, E16], [B5, B6], H⟩ (st_len S27 p0.W_ (eI .u32) (some 20) (by kernel_rfl) (by kernel_rfl)) ?_
  refine o_run 1 ⟨[E1, E2, E3, E4, E8, E9, E10, E11, E12, E13, E14, E15, E16, E7], [B5, B6], H⟩ (by kernel_rfl) (by kernel_rfl) ?_
  exact o_end (by kernel_rfl) (by kernel_rfl)
  rcases if_inv hF with ⟨h2, hF⟩ | ⟨h2, hF⟩
  refine w_cT (m := .top) h2 (s1 := S25) (by kernel_rfl) (by kernel_rfl) ?_
  refine w_seq ?_
  refine w_reg ⟨[E4, (7, .one .top (.int .i64 31))], [(6, (m0_ref03_Mem p0))], H⟩ (by kernel_rfl) ?_
  refine w_ret ?_
  obtain ⟨e0, e1⟩ := some2_inv hF
  subst e0
  subst e1
  exact fin_pure (v := .tup [.agg (m0_ref03_Mem p0), .one .top (.int .i64 31)]) (by kernel_rfl) (by kernel_rfl) rfl (by kernel_rfl)
  refine w_cF (m := .top) h2 (s1 := S24) (by kernel_rfl) (by kernel_rfl) ?_
  refine w_skip ?_
  refine w_seq ?_
  obtain ⟨r3, c4, hF⟩ := bind1_inv hF
  let E23 : EN := (28, .agg (m0_ref03_Mem r3))
  refine w_regO ⟨[E4, E17], [(6, (m0_ref03_Mem r3))], H⟩ ?_ ?_
  refine o_run 5 S28 (by kernel_rfl) (by kernel_rfl) ?_
  refine o_one ⟨[E1, E2, E3, E4, E18, E19, E20, E21, E22, E23], [B5, B6], H⟩ (st_call (d := (some 28)) (fz := false) (pure := true) (own := false) S28 (ok_ref03_with H c4) (by kernel_rfl) (by kernel_rfl)) ?_
  refine o_run 2 ⟨[E1, E2, E3, E4, E17, E18, E19, E20, E21, E22, E23], [B5, (6, (m0_ref03_Mem r3))], H⟩ (by kernel_rfl) (by kernel_rfl) ?_
  exact o_end (by kernel_rfl) (by kernel_rfl)
  refine w_ret ?_
  obtain ⟨e0, e1⟩ := some2_inv hF
  subst e0
  subst e1
  exact fin_pure (v := .tup [.agg (m0_ref03_Mem r3), .one .top (.int .i64 0)]) (by kernel_rfl) (by kernel_rfl) rfl (by kernel_rfl)
noncomputable def ref03_Load  (p0 : T_ref03_Mem) (p1 : Int) : Option (Int × Int) :=
  if ((Int.tmod p1 4) != 0) = true then (some (0, 30))
  else (if (decide ((IntKind.wrap .i64 (IntKind.wrap .u32 (Int.tdiv p1 4))) ≥ (p0.W_.length : Int))) = true then (some (0, 31))
  else (bind1 (gi p0.W_ (IntKind.wrap .u32 (Int.tdiv p1 4))) fun x3 =>
  some (x3, 0)))
theorem ok_ref03_Load (H : Heap) {p0 : T_ref03_Mem} {p1 : Int} {ra : Int} {rb : Int} (hF : ref03_Load p0 p1 = some (ra, rb)) : evS X 39 [.agg (m0_ref03_Mem p0), .one .top (.int .u32 p1)] H = some (.tup [.one .top (.int .u32 ra), .one .top (.int .i64 rb)], H) := by
  let E1 : EN := (1, .one .top (.int .u32 p1))
  let E2 : EN := (2, .one .top (.loc 2 0))
  let B3 : EB := (2, (m0_ref03_Mem p0))
  let E4 : EN := (4, .one .top (.int .u32 0))
  let E5 : EN := (15, .one .top (.bool (decide ((IntKind.wrap .i64 (IntKind.wrap .u32 (Int.tdiv p1 4))) ≥ (p0.W_.length : Int)))))
  let E6 : EN := (9, .one .top (.int .u32 p1))
  let E7 : EN := (10, .one .top (.int .u32 (IntKind.wrap .u32 (Int.tdiv p1 4))))
  let E8 : EN := (11, .one .top (.int .i64 (IntKind.wrap .i64 (IntKind.wrap .u32 (Int.tdiv p1 4)))))
  let E9 : EN := (12, .one .top (.loc 2 5))
  let E10 : EN := (13, .one (.own 0) (.sl 1 (List.map (eI .u32) p0.W_)))
  let E11 : EN := (14, .one .top (.int .i64 (p0.W_.length : Int)))
  let E13 : EN := (5, .one .top (.int .i64 0))
  let E14 : EN := (16, .one .top (.loc 2 5))
  let E15 : EN := (17, .one (.own 0) (.sl 1 (List.map (eI .u32) p0.W_)))
  let E16 : EN := (18, .one .top (.int .u32 p1))
  let E17 : EN := (19, .one .top (.int .u32 (IntKind.wrap .u32 (Int.tdiv p1 4))))
  let S19 : St := ⟨[E1, E2], [B3], H⟩
  let S20 : St := ⟨[E1, E2, E6, E7, E8, E9, E10], [B3], H⟩
  let S21 : St := ⟨[E1, E2, E14, E15, E16, E17], [B3], H⟩
  refine w_fun Try.func39 rfl (by kernel_rfl) true (by kernel_rfl) (s0 := (⟨[(0, .agg (m0_ref03_Mem p0)), E1], [], H⟩ : St)) (by kernel_rfl) ?_
  unfold ref03_Load at hF
  refine w_seq ?_
  refine w_reg S19 (by kernel_rfl) ?_
  refine w_seq ?_
  refine w_seq ?_
  refine w_reg ⟨[E1, E2, (8, .one .top (.bool ((Int.tmod p1 4) != 0)))], [B3], H⟩ (by kernel_rfl) ?_
  rcases if_inv hF with ⟨h1, hF⟩ | ⟨h1, hF⟩
  refine w_cT (m := .top) h1 (s1 := (⟨[], [], H⟩ : St)) (by kernel_rfl) (by kernel_rfl) ?_
  refine w_seq ?_
  refine w_reg ⟨[E4, (5, .one .top (.int .i64 30))], [], H⟩ (by kernel_rfl) ?_
  refine w_ret ?_
  obtain ⟨e0, e1⟩ := some2_inv hF
  subst e0
  subst e1
  exact fin_pure (v := .tup [.one .top (.int .u32 0), .one .top (.int .i64 30)]) (by kernel_rfl) (by kernel_rfl) rfl (by kernel_rfl)
  refine w_cF (m := .top) h1 (s1 := S19) (by kernel_rfl) (by kernel_rfl) ?_
  refine w_skip ?_
  refine w_seq ?_
  refine w_seq ?_
  refine w_regO ⟨[E1, E2, E5], [B3], H⟩ ?_ ?_
  refine o_run 5 S20 (by kernel_rfl) (by kernel_rfl) ?_
  refine o_one ⟨[E1, E2, E6, E7, E8, E9, E10, E11], [B3], H⟩ (st_len S20 p0.W_ (eI .u32) (some 14) (by kernel_rfl) (by kernel_rfl)) ?_
  refine o_run 1 ⟨[E1, E2, E6, E7, E8, E9, E10, E11, E5], [B3], H⟩ (by kernel_rfl) (by kernel_rfl) ?_
  exact o_end (by kernel_rfl) (by kernel_rfl)
  rcases if_inv hF with ⟨h2, hF⟩ | ⟨h2, hF⟩
  refine w_cT (m := .top) h2 (s1 := (⟨[], [], H⟩ : St)) (by kernel_rfl) (by kernel_rfl) ?_
  refine w_seq ?_
  refine w_reg ⟨[E4, (5, .one .top (.int .i64 31))], [], H⟩ (by kernel_rfl) ?_
  refine w_ret ?_
  obtain ⟨e0, e1⟩ := some2_inv hF
  subst e0
  subst e1
  exact fin_pure (v := .tup [.one .top (.int .u32 0), .one .top (.int .i64 31)]) (by kernel_rfl) (by kernel_rfl) rfl (by kernel_rfl)
  refine w_cF (m := .top) h2 (s1 := S19) (by kernel_rfl) (by kernel_rfl) ?_
  refine w_skip ?_
  refine w_seq ?_
  obtain ⟨x3, h4, hF⟩ := bind1_inv hF
  let E12 : EN := (4, .one .top (.int .u32 x3))
  let E18 : EN := (20, .one .top (.rd (.own 0) (.own 0) [.int .u32 x3] 0))
  refine w_regO ⟨[E12, E13], [], H⟩ ?_ ?_
  refine o_run 4 S21 (by kernel_rfl) (by kernel_rfl) ?_
  refine o_one ⟨[E1, E2, E14, E15, E16, E17, E18], [B3], H⟩ (st_ix (X := X) S21 42 35 1 h4 (eI .u32) (.own 0) (some 20) (by kernel_rfl) (by kernel_rfl) (by kernel_rfl) (by kernel_rfl)) ?_
  refine o_run 3 ⟨[E1, E2, E12, E13, E14, E15, E16, E17, E18, (21, .one .top (.int .u32 x3))], [B3], H⟩ (by kernel_rfl) (by kernel_rfl) ?_
  exact o_end (by kernel_rfl) (by kernel_rfl)
  refine w_ret ?_
  obtain ⟨e0, e1⟩ := some2_inv hF
  subst e0
  subst e1
  exact fin_pure (v := .tup [.one .top (.int .u32 x3), .one .top (.int .i64 0)]) (by kernel_rfl) (by kernel_rfl) rfl (by kernel_rfl)
noncomputable def ref03_Fetch  (p0 : T_ref03_Mem) (p1 : Int) : Option (Int × Int) :=
  bind2 (ref03_Load p0 p1) fun r1 r2 =>
  if ((r2 == 0) && (decide (p1 ≥ (p0.Ends_.g 0)))) = true then (some (0, 31))
  else (some (r1, r2))
theorem ok_ref03_Fetch (H : Heap) {p0 : T_ref03_Mem} {p1 : Int} {ra : Int} {rb : Int} (hF : ref03_Fetch p0 p1 = some (ra, rb)) : evS X 95 [.agg (m0_ref03_Mem p0), .one .top (.int .u32 p1)] H = some (.tup [.one .top (.int .u32 ra), .one .top (.int .i64 rb)], H) := by
  let E1 : EN := (1, .one .top (.int .u32 p1))
  let E2 : EN := (2, .one .top (.loc 2 0))
  let B3 : EB := (2, (m0_ref03_Mem p0))
  let E6 : EN := (9, .agg (m0_ref03_Mem p0))
  let E7 : EN := (10, .one .top (.int .u32 p1))
  let S10 : St := ⟨[E1, E2, E6, E7], [B3], H⟩
  refine w_fun Try.func95 rfl (by kernel_rfl) true (by kernel_rfl) (s0 := (⟨[(0, .agg (m0_ref03_Mem p0)), E1], [], H⟩ : St)) (by kernel_rfl) ?_
  unfold ref03_Fetch at hF
  refine w_seq ?_
  refine w_reg ⟨[E1, E2], [B3], H⟩ (by kernel_rfl) ?_
  refine w_seq ?_
  obtain ⟨r1, r2, c3, hF⟩ := bind2_inv hF
  let E4 : EN := (6, .one .top (.int .u32 r1))
  let E5 : EN := (7, .one .top (.int .i64 r2))
  let E8 : EN := (11, .tup [.one .top (.int .u32 r1), .one .top (.int .i64 r2)])
  let E9 : EN := (14, .one .top (.int .i64 r2))
  refine w_regO ⟨[E1, E2, E4, E5], [B3], H⟩ ?_ ?_
  refine o_run 2 S10 (by kernel_rfl) (by kernel_rfl) ?_
  refine o_one ⟨[E1, E2, E6, E7, E8], [B3], H⟩ (st_call (d := (some 11)) (fz := false) (pure := true) (own := false) S10 (ok_ref03_Load H c3) (by kernel_rfl) (by kernel_rfl)) ?_
  refine o_run 5 ⟨[E1, E2, E4, E5, (8, .tup [.one .top (.int .u32 r1), .one .top (.int .i64 r2)]), E6, E7, E8, (12, .one .top (.int .u32 r1)), (13, .one .top (.int .i64 r2))], [B3], H⟩ (by kernel_rfl) (by kernel_rfl) ?_
  exact o_end (by kernel_rfl) (by kernel_rfl)
  refine w_seq ?_
  refine w_seq ?_
  refine w_regO ⟨[E4, E5, (22, .one .top (.bool ((r2 == 0) && (decide (p1 ≥ (p0.Ends_.g 0))))))], [], H⟩ ?_ ?_
  refine o_run 3 ⟨[E1, E2, E4, E5, E9, (15, .one .top (.bool (r2 == 0))), (16, .one .top (.bool (r2 == 0)))], [B3], H⟩ (by kernel_rfl) (by kernel_rfl) ?_
  rcases bool_cases (r2 == 0) with h4 | h4
  refine o_eq (congrArg (fun q => (⟨[E1, E2, E4, E5, E9, (15, .one .top (.bool q)), (16, .one .top (.bool q))], [B3], H⟩ : St)) h4) ?_
  refine o_run 6 ⟨[E1, E2, E4, E5, E9, (15, .one .top (.bool true)), (16, .one .top (.bool true)), (17, .one .top (.int .u32 p1)), (18, .one .top (.loc 2 0)), (19, .one .top (.loc 2 0)), (20, .one .top (.int .u32 (p0.Ends_.g 0))), (21, .one .top (.bool (decide (p1 ≥ (p0.Ends_.g 0))))), (22, .one .top (.bool (decide (p1 ≥ (p0.Ends_.g 0)))))], [B3], H⟩ (by kernel_rfl) (by kernel_rfl) ?_
  refine o_eq2 (congrArg (fun q0 => (⟨[E4, E5, (22, .one .top (.bool q0))], [], H⟩ : St)) (show (decide (p1 ≥ (p0.Ends_.g 0))) = ((r2 == 0) && (decide (p1 ≥ (p0.Ends_.g 0)))) by simp [h4])) ?_
  exact o_end (by kernel_rfl) (by kernel_rfl)
  refine o_eq (congrArg (fun q => (⟨[E1, E2, E4, E5, E9, (15, .one .top (.bool q)), (16, .one .top (.bool q))], [B3], H⟩ : St)) h4) ?_
  refine o_run 6 ⟨[E1, E2, E4, E5, E9, (15, .one .top (.bool false)), (16, .one .top (.bool false)), (17, .tup []), (18, .tup []), (19, .tup []), (20, .tup []), (21, .tup []), (22, .one .top (.bool false))], [B3], H⟩ (by kernel_rfl) (by kernel_rfl) ?_
  refine o_eq2 (congrArg (fun q0 => (⟨[E4, E5, (22, .one .top (.bool q0))], [], H⟩ : St)) (show false = ((r2 == 0) && (decide (p1 ≥ (p0.Ends_.g 0)))) by simp [h4])) ?_
  exact o_end (by kernel_rfl) (by kernel_rfl)
  rcases if_inv hF with ⟨h5, hF⟩ | ⟨h5, hF⟩
  refine w_cT (m := .top) h5 (s1 := (⟨[], [], H⟩ : St)) (by kernel_rfl) (by kernel_rfl) ?_
  refine w_seq ?_
  refine w_reg ⟨[(4, .one .top (.int .u32 0)), (5, .one .top (.int .i64 31))], [], H⟩ (by kernel_rfl) ?_
  refine w_ret ?_
  obtain ⟨e0, e1⟩ := some2_inv hF
  subst e0
  subst e1
  exact fin_pure (v := .tup [.one .top (.int .u32 0), .one .top (.int .i64 31)]) (by kernel_rfl) (by kernel_rfl) rfl (by kernel_rfl)
  refine w_cF (m := .top) h5 (s1 := (⟨[E4, E5], [], H⟩ : St)) (by kernel_rfl) (by kernel_rfl) ?_
  refine w_skip ?_
  refine w_seq ?_
  refine w_reg ⟨[(4, .one .top (.int .u32 r1)), (5, .one .top (.int .i64 r2))], [], H⟩ (by kernel_rfl) ?_
  refine w_ret ?_
  obtain ⟨e0, e1⟩ := some2_inv hF
  subst e0
  subst e1
  exact fin_pure (v := .tup [.one .top (.int .u32 r1), .one .top (.int .i64 r2)]) (by kernel_rfl) (by kernel_rfl) rfl (by kernel_rfl)
noncomputable def ref04_fault  (p0 : T_ref04_Cpu) (p1 : Int) : Option (T_ref04_Cpu) :=
  some (T_ref04_Cpu.mk p0.R_ p0.PC_ p0.EPC_ p0.Cause_ 2 p1 p0.Steps_ p0.Taken_ p0.Out_ p0.Entry_ p0.Vector_ p0.Guard_ p0.Limit_ p0.Input_)
theorem ok_ref04_fault (H : Heap) {p0 : T_ref04_Cpu} {p1 : Int} {ra : T_ref04_Cpu} (hF : ref04_fault p0 p1 = some ra) : evS X 96 [.agg (m1_ref04_Cpu p0), .one .top (.int .i64 p1)] H = some (.agg (m1_ref04_Cpu ra), H) := by
  let E1 : EN := (1, .one .top (.int .i64 p1))
  let E2 : EN := (4, .one .top (.loc 4 0))
  let B3 : EB := (4, (List.replicate 19 (.top, .int .u32 0) ++ List.replicate 4 (.top, .int .i64 0) ++ [((.own 1), .sl 2 (List.map e_api_Event ([] : List T_api_Event)))] ++ List.replicate 4 (.top, .int .u32 0) ++ [((.own 1), .sl 1 (List.map (eI .i32) ([] : List Int)))]))
  refine w_fun Try.func96 rfl (by kernel_rfl) true (by kernel_rfl) (s0 := (⟨[(0, .agg (m1_ref04_Cpu p0)), E1], [], H⟩ : St)) (by kernel_rfl) ?_
  unfold ref04_fault at hF
  refine w_seq ?_
  refine w_reg ⟨[E1, (2, .one .top (.loc 2 0)), E2], [(2, (m1_ref04_Cpu p0)), B3], H⟩ (by kernel_rfl) ?_
  refine w_seq ?_
  refine w_reg ⟨[(2, .one .top (.loc 2 0)), E2], [(2, (arM .u32 16 p0.R_ ++ [(.top, .int .u32 p0.PC_), (.top, .int .u32 p0.EPC_), (.top, .int .u32 p0.Cause_), (.top, .int .i64 2), (.top, .int .i64 p1), (.top, .int .i64 p0.Steps_), (.top, .int .i64 p0.Taken_), ((.own 0), .sl 2 (List.map e_api_Event p0.Out_)), (.top, .int .u32 p0.Entry_), (.top, .int .u32 p0.Vector_), (.top, .int .u32 p0.Guard_), (.top, .int .u32 p0.Limit_), ((.own 0), .sl 1 (List.map (eI .i32) p0.Input_))])), B3], H⟩ (by kernel_rfl) ?_
  refine w_seq ?_
  refine w_reg ⟨[E2], [(4, (arM .u32 16 p0.R_ ++ [(.top, .int .u32 p0.PC_), (.top, .int .u32 p0.EPC_), (.top, .int .u32 p0.Cause_), (.top, .int .i64 2), (.top, .int .i64 p1), (.top, .int .i64 p0.Steps_), (.top, .int .i64 p0.Taken_), ((.own 0), .sl 2 (List.map e_api_Event p0.Out_)), (.top, .int .u32 p0.Entry_), (.top, .int .u32 p0.Vector_), (.top, .int .u32 p0.Guard_), (.top, .int .u32 p0.Limit_), ((.own 0), .sl 1 (List.map (eI .i32) p0.Input_))]))], H⟩ (by kernel_rfl) ?_
  refine w_ret ?_
  obtain e0 := some1_inv hF
  subst e0
  exact fin_pure (v := .agg (arM .u32 16 p0.R_ ++ [(.top, .int .u32 p0.PC_), (.top, .int .u32 p0.EPC_), (.top, .int .u32 p0.Cause_), (.top, .int .i64 2), (.top, .int .i64 p1), (.top, .int .i64 p0.Steps_), (.top, .int .i64 p0.Taken_), ((.own 0), .sl 2 (List.map e_api_Event p0.Out_)), (.top, .int .u32 p0.Entry_), (.top, .int .u32 p0.Vector_), (.top, .int .u32 p0.Guard_), (.top, .int .u32 p0.Limit_), ((.own 0), .sl 1 (List.map (eI .i32) p0.Input_))])) (by kernel_rfl) (by kernel_rfl) rfl (by kernel_rfl)
noncomputable def ref02_Shape_j6 (p0 : Int) (j14 : Bool) : Option (Int) :=
  if j14 = true then (some 7)
  else (if (p0 == 28) = true then (some 8)
  else (some (-1)))
noncomputable def ref02_Shape_j5 (p0 : Int) (j12 : Bool) : Option (Int) :=
  if j12 = true then (some 6)
  else (if (p0 == 22) = true then (ref02_Shape_j6 p0 (p0 == 22))
  else (ref02_Shape_j6 p0 (p0 == 23)))
noncomputable def ref02_Shape_j7 (p0 : Int) (j19 : Bool) : Option (Int) :=
  ref02_Shape_j5 p0 j19
noncomputable def ref02_Shape_j8 (p0 : Int) (j21 : Bool) : Option (Int) :=
  ref02_Shape_j7 p0 j21
noncomputable def ref02_Shape_j9 (p0 : Int) (j23 : Bool) : Option (Int) :=
  ref02_Shape_j8 p0 j23
noncomputable def ref02_Shape_j10 (p0 : Int) (j25 : Bool) : Option (Int) :=
  ref02_Shape_j9 p0 j25
noncomputable def ref02_Shape_j4 (p0 : Int) (j10 : Bool) : Option (Int) :=
  if j10 = true then (some 4)
  else (if (p0 == 24) = true then (ref02_Shape_j5 p0 (p0 == 24))
  else (if (p0 == 25) = true then (ref02_Shape_j7 p0 (p0 == 25))
  else (if (p0 == 27) = true then (ref02_Shape_j8 p0 (p0 == 27))
  else (if (p0 == 29) = true then (ref02_Shape_j9 p0 (p0 == 29))
  else (if (p0 == 31) = true then (ref02_Shape_j10 p0 (p0 == 31))
  else (ref02_Shape_j10 p0 (p0 == 32)))))))
noncomputable def ref02_Shape_j11 (p0 : Int) (j28 : Bool) : Option (Int) :=
  ref02_Shape_j4 p0 j28
noncomputable def ref02_Shape_j3 (p0 : Int) (j8 : Bool) : Option (Int) :=
  if j8 = true then (some 3)
  else (if (p0 == 4) = true then (ref02_Shape_j4 p0 (p0 == 4))
  else (if (p0 == 26) = true then (ref02_Shape_j11 p0 (p0 == 26))
  else (ref02_Shape_j11 p0 (p0 == 34))))
noncomputable def ref02_Shape_j12 (p0 : Int) (j31 : Bool) : Option (Int) :=
  ref02_Shape_j3 p0 j31
noncomputable def ref02_Shape_j2 (p0 : Int) (j6 : Bool) : Option (Int) :=
  if j6 = true then (some 2)
  else (if (p0 == 5) = true then (ref02_Shape_j3 p0 (p0 == 5))
  else (if (p0 == 18) = true then (ref02_Shape_j12 p0 (p0 == 18))
  else (ref02_Shape_j12 p0 (p0 == 19))))
noncomputable def ref02_Shape_j13 (p0 : Int) (j34 : Bool) : Option (Int) :=
  ref02_Shape_j2 p0 j34
noncomputable def ref02_Shape_j1 (p0 : Int) (j4 : Bool) : Option (Int) :=
  if j4 = true then (some 1)
  else (if (p0 == 3) = true then (ref02_Shape_j2 p0 (p0 == 3))
  else (if (p0 == 30) = true then (ref02_Shape_j13 p0 (p0 == 30))
  else (ref02_Shape_j13 p0 (p0 == 33))))
noncomputable def ref02_Shape_j14 (p0 : Int) (j37 : Bool) : Option (Int) :=
  ref02_Shape_j1 p0 j37
noncomputable def ref02_Shape  (p0 : Int) : Option (Int) :=
  if ((decide (p0 ≥ 6)) && (decide (p0 ≤ 17))) = true then (some 5)
  else (if (p0 == 1) = true then (some 0)
  else (if (p0 == 2) = true then (ref02_Shape_j1 p0 (p0 == 2))
  else (if (p0 == 20) = true then (ref02_Shape_j14 p0 (p0 == 20))
  else (ref02_Shape_j14 p0 (p0 == 21)))))
theorem ok_ref02_Shape (H : Heap) {p0 : Int} {ra : Int} (hF : ref02_Shape p0 = some ra) : evS X 91 [.one .top (.int .i64 p0)] H = some (.one .top (.int .i64 ra), H) := by
  let E1 : EN := (0, .one .top (.int .i64 p0))
  let E2 : EN := (3, .one .top (.int .i64 p0))
  let E3 : EN := (9, .one .top (.int .i64 p0))
  let E4 : EN := (12, .one .top (.bool (p0 == 2)))
  let E5 : EN := (16, .one .top (.bool (p0 == 3)))
  let E6 : EN := (20, .one .top (.bool (p0 == 5)))
  let E7 : EN := (24, .one .top (.bool (p0 == 4)))
  let E8 : EN := (28, .one .top (.bool (p0 == 24)))
  let E9 : EN := (35, .one .top (.bool (p0 == 22)))
  let E10 : EN := (28, .one .top (.bool (p0 == 25)))
  let E11 : EN := (28, .one .top (.bool (p0 == 27)))
  let E12 : EN := (28, .one .top (.bool (p0 == 29)))
  let E13 : EN := (28, .one .top (.bool (p0 == 31)))
  let E14 : EN := (24, .one .top (.bool (p0 == 26)))
  let E15 : EN := (20, .one .top (.bool (p0 == 18)))
  let E16 : EN := (16, .one .top (.bool (p0 == 30)))
  let E17 : EN := (12, .one .top (.bool (p0 == 20)))
  let S18 : St := ⟨[E1], [], H⟩
  let S19 : St := ⟨[], [], H⟩
  let S20 : St := ⟨[E3], [], H⟩
  refine w_fun Try.func91 rfl (by kernel_rfl) true (by kernel_rfl) (s0 := S18) (by kernel_rfl) ?_
  unfold ref02_Shape at hF
  refine w_seq ?_
  refine w_reg S18 (by kernel_rfl) ?_
  refine w_seq ?_
  refine w_seq ?_
  refine w_regO ⟨[E1, (8, .one .top (.bool ((decide (p0 ≥ 6)) && (decide (p0 ≤ 17)))))], [], H⟩ ?_ ?_
  refine o_run 3 ⟨[E1, E2, (4, .one .top (.bool (decide (p0 ≥ 6)))), (5, .one .top (.bool (decide (p0 ≥ 6))))], [], H⟩ (by kernel_rfl) (by kernel_rfl) ?_
  rcases bool_cases (decide (p0 ≥ 6)) with h1 | h1
  refine o_eq (congrArg (fun q => (⟨[E1, E2, (4, .one .top (.bool q)), (5, .one .top (.bool q))], [], H⟩ : St)) h1) ?_
  refine o_run 3 ⟨[E1, E2, (4, .one .top (.bool true)), (5, .one .top (.bool true)), (6, .one .top (.int .i64 p0)), (7, .one .top (.bool (decide (p0 ≤ 17)))), (8, .one .top (.bool (decide (p0 ≤ 17))))], [], H⟩ (by kernel_rfl) (by kernel_rfl) ?_
  refine o_eq2 (congrArg (fun q0 => (⟨[E1, (8, .one .top (.bool q0))], [], H⟩ : St)) (show (decide (p0 ≤ 17)) = ((decide (p0 ≥ 6)) && (decide (p0 ≤ 17))) by simp [h1])) ?_
  exact o_end (by kernel_rfl) (by kernel_rfl)
  refine o_eq (congrArg (fun q => (⟨[E1, E2, (4, .one .top (.bool q)), (5, .one .top (.bool q))], [], H⟩ : St)) h1) ?_
  refine o_run 3 ⟨[E1, E2, (4, .one .top (.bool false)), (5, .one .top (.bool false)), (6, .tup []), (7, .tup []), (8, .one .top (.bool false))], [], H⟩ (by kernel_rfl) (by kernel_rfl) ?_
  refine o_eq2 (congrArg (fun q0 => (⟨[E1, (8, .one .top (.bool q0))], [], H⟩ : St)) (show false = ((decide (p0 ≥ 6)) && (decide (p0 ≤ 17))) by simp [h1])) ?_
  exact o_end (by kernel_rfl) (by kernel_rfl)
  rcases if_inv hF with ⟨h2, hF⟩ | ⟨h2, hF⟩
  refine w_cT (m := .top) h2 (s1 := S19) (by kernel_rfl) (by kernel_rfl) ?_
  refine w_seq ?_
  refine w_reg ⟨[(2, .one .top (.int .i64 5))], [], H⟩ (by kernel_rfl) ?_
  refine w_ret ?_
  obtain e0 := some1_inv hF
  subst e0
  exact fin_pure (v := .one .top (.int .i64 5)) (by kernel_rfl) (by kernel_rfl) rfl (by kernel_rfl)
  refine w_cF (m := .top) h2 (s1 := S18) (by kernel_rfl) (by kernel_rfl) ?_
  refine w_skip ?_
  refine w_seq ?_
  refine w_reg S20 (by kernel_rfl) ?_
  refine w_block ?_
  refine w_seq ?_
  refine w_reg ⟨[E3, (10, .one .top (.bool (p0 == 1)))], [], H⟩ (by kernel_rfl) ?_
  rcases if_inv hF with ⟨h3, hF⟩ | ⟨h3, hF⟩
  refine w_cT (m := .top) h3 (s1 := S19) (by kernel_rfl) (by kernel_rfl) ?_
  refine w_seq ?_
  refine w_reg ⟨[(2, .one .top (.int .i64 0))], [], H⟩ (by kernel_rfl) ?_
  refine w_ret ?_
  obtain e0 := some1_inv hF
  subst e0
  exact fin_pure (v := .one .top (.int .i64 0)) (by kernel_rfl) (by kernel_rfl) rfl (by kernel_rfl)
  refine w_cF (m := .top) h3 (s1 := S20) (by kernel_rfl) (by kernel_rfl) ?_
  refine w_seq ?_
  refine w_seq ?_
  refine w_reg ⟨[E3, E4], [], H⟩ (by kernel_rfl) ?_
  refine w_join (α := (Bool)) (fun x => (⟨[E3, (12, .one .top (.bool x))], [], H⟩ : St)) (fun x => ref02_Shape_j1 p0 x = some ra) ?_ ?_
  rintro j4 hF
  replace hF : ref02_Shape_j1 p0 j4 = some ra := hF
  unfold ref02_Shape_j1 at hF
  rcases if_inv hF with ⟨h5, hF⟩ | ⟨h5, hF⟩
  refine w_cT (m := .top) h5 (s1 := S19) (by kernel_rfl) (by kernel_rfl) ?_
  refine w_seq ?_
  refine w_reg ⟨[(2, .one .top (.int .i64 1))], [], H⟩ (by kernel_rfl) ?_
  refine w_ret ?_
  obtain e0 := some1_inv hF
  subst e0
  exact fin_pure (v := .one .top (.int .i64 1)) (by kernel_rfl) (by kernel_rfl) rfl (by kernel_rfl)
  refine w_cF (m := .top) h5 (s1 := S20) (by kernel_rfl) (by kernel_rfl) ?_
  refine w_seq ?_
  refine w_seq ?_
  refine w_reg ⟨[E3, E5], [], H⟩ (by kernel_rfl) ?_
  refine w_join (α := (Bool)) (fun x => (⟨[E3, (16, .one .top (.bool x))], [], H⟩ : St)) (fun x => ref02_Shape_j2 p0 x = some ra) ?_ ?_
  rintro j6 hF
  replace hF : ref02_Shape_j2 p0 j6 = some ra := hF
  unfold ref02_Shape_j2 at hF
  rcases if_inv hF with ⟨h7, hF⟩ | ⟨h7, hF⟩
  refine w_cT (m := .top) h7 (s1 := S19) (by kernel_rfl) (by kernel_rfl) ?_
  refine w_seq ?_
  refine w_reg ⟨[(2, .one .top (.int .i64 2))], [], H⟩ (by kernel_rfl) ?_
  refine w_ret ?_
  obtain e0 := some1_inv hF
  subst e0
  exact fin_pure (v := .one .top (.int .i64 2)) (by kernel_rfl) (by kernel_rfl) rfl (by kernel_rfl)
  refine w_cF (m := .top) h7 (s1 := S20) (by kernel_rfl) (by kernel_rfl) ?_
  refine w_seq ?_
  refine w_seq ?_
  refine w_reg ⟨[E3, E6], [], H⟩ (by kernel_rfl) ?_
  refine w_join (α := (Bool)) (fun x => (⟨[E3, (20, .one .top (.bool x))], [], H⟩ : St)) (fun x => ref02_Shape_j3 p0 x = some ra) ?_ ?_
  rintro j8 hF
  replace hF : ref02_Shape_j3 p0 j8 = some ra := hF
  unfold ref02_Shape_j3 at hF
  rcases if_inv hF with ⟨h9, hF⟩ | ⟨h9, hF⟩
  refine w_cT (m := .top) h9 (s1 := S19) (by kernel_rfl) (by kernel_rfl) ?_
  refine w_seq ?_
  refine w_reg ⟨[(2, .one .top (.int .i64 3))], [], H⟩ (by kernel_rfl) ?_
  refine w_ret ?_
  obtain e0 := some1_inv hF
  subst e0
  exact fin_pure (v := .one .top (.int .i64 3)) (by kernel_rfl) (by kernel_rfl) rfl (by kernel_rfl)
  refine w_cF (m := .top) h9 (s1 := S20) (by kernel_rfl) (by kernel_rfl) ?_
  refine w_seq ?_
  refine w_seq ?_
  refine w_reg ⟨[E3, E7], [], H⟩ (by kernel_rfl) ?_
  refine w_join (α := (Bool)) (fun x => (⟨[E3, (24, .one .top (.bool x))], [], H⟩ : St)) (fun x => ref02_Shape_j4 p0 x = some ra) ?_ ?_
  rintro j10 hF
  replace hF : ref02_Shape_j4 p0 j10 = some ra := hF
  unfold ref02_Shape_j4 at hF
  rcases if_inv hF with ⟨h11, hF⟩ | ⟨h11, hF⟩
  refine w_cT (m := .top) h11 (s1 := S19) (by kernel_rfl) (by kernel_rfl) ?_
  refine w_seq ?_
  refine w_reg ⟨[(2, .one .top (.int .i64 4))], [], H⟩ (by kernel_rfl) ?_
  refine w_ret ?_
  obtain e0 := some1_inv hF
  subst e0
  exact fin_pure (v := .one .top (.int .i64 4)) (by kernel_rfl) (by kernel_rfl) rfl (by kernel_rfl)
  refine w_cF (m := .top) h11 (s1 := S20) (by kernel_rfl) (by kernel_rfl) ?_
  refine w_seq ?_
  refine w_seq ?_
  refine w_reg ⟨[E3, E8], [], H⟩ (by kernel_rfl) ?_
  refine w_join (α := (Bool)) (fun x => (⟨[E3, (28, .one .top (.bool x))], [], H⟩ : St)) (fun x => ref02_Shape_j5 p0 x = some ra) ?_ ?_
  rintro j12 hF
  replace hF : ref02_Shape_j5 p0 j12 = some ra := hF
  unfold ref02_Shape_j5 at hF
  rcases if_inv hF with ⟨h13, hF⟩ | ⟨h13, hF⟩
  refine w_cT (m := .top) h13 (s1 := S19) (by kernel_rfl) (by kernel_rfl) ?_
  refine w_seq ?_
  refine w_reg ⟨[(2, .one .top (.int .i64 6))], [], H⟩ (by kernel_rfl) ?_
  refine w_ret ?_
  obtain e0 := some1_inv hF
  subst e0
  exact fin_pure (v := .one .top (.int .i64 6)) (by kernel_rfl) (by kernel_rfl) rfl (by kernel_rfl)
  refine w_cF (m := .top) h13 (s1 := S20) (by kernel_rfl) (by kernel_rfl) ?_
  refine w_seq ?_
  refine w_seq ?_
  refine w_reg ⟨[E3, E9], [], H⟩ (by kernel_rfl) ?_
  refine w_join (α := (Bool)) (fun x => (⟨[E3, (35, .one .top (.bool x))], [], H⟩ : St)) (fun x => ref02_Shape_j6 p0 x = some ra) ?_ ?_
  rintro j14 hF
  replace hF : ref02_Shape_j6 p0 j14 = some ra := hF
  unfold ref02_Shape_j6 at hF
  rcases if_inv hF with ⟨h15, hF⟩ | ⟨h15, hF⟩
  refine w_cT (m := .top) h15 (s1 := S19) (by kernel_rfl) (by kernel_rfl) ?_
  refine w_seq ?_
  refine w_reg ⟨[(2, .one .top (.int .i64 7))], [], H⟩ (by kernel_rfl) ?_
  refine w_ret ?_
  obtain e0 := some1_inv hF
  subst e0
  exact fin_pure (v := .one .top (.int .i64 7)) (by kernel_rfl) (by kernel_rfl) rfl (by kernel_rfl)
  refine w_cF (m := .top) h15 (s1 := S20) (by kernel_rfl) (by kernel_rfl) ?_
  refine w_seq ?_
  refine w_reg ⟨[(38, .one .top (.bool (p0 == 28)))], [], H⟩ (by kernel_rfl) ?_
  rcases if_inv hF with ⟨h16, hF⟩ | ⟨h16, hF⟩
  refine w_cT (m := .top) h16 (s1 := S19) (by kernel_rfl) (by kernel_rfl) ?_
  refine w_seq ?_
  refine w_reg ⟨[(2, .one .top (.int .i64 8))], [], H⟩ (by kernel_rfl) ?_
  refine w_ret ?_
  obtain e0 := some1_inv hF
  subst e0
  exact fin_pure (v := .one .top (.int .i64 8)) (by kernel_rfl) (by kernel_rfl) rfl (by kernel_rfl)
  refine w_cF (m := .top) h16 (s1 := S19) (by kernel_rfl) (by kernel_rfl) ?_
  refine w_seq ?_
  refine w_reg ⟨[(2, .one .top (.int .i64 (-1)))], [], H⟩ (by kernel_rfl) ?_
  refine w_ret ?_
  obtain e0 := some1_inv hF
  subst e0
  exact fin_pure (v := .one .top (.int .i64 (-1))) (by kernel_rfl) (by kernel_rfl) rfl (by kernel_rfl)
  rcases if_inv hF with ⟨h17, hF⟩ | ⟨h17, hF⟩
  refine w_cT (m := .top) h17 (s1 := (⟨[E3, E9], [], H⟩ : St)) (by kernel_rfl) (by kernel_rfl) ?_
  refine w_skip ?_
  exact ⟨(p0 == 22), hF, (by kernel_rfl)⟩
  refine w_cF (m := .top) h17 (s1 := S20) (by kernel_rfl) (by kernel_rfl) ?_
  refine w_reg ⟨[E3, (35, .one .top (.bool (p0 == 23)))], [], H⟩ (by kernel_rfl) ?_
  exact ⟨(p0 == 23), hF, (by kernel_rfl)⟩
  rcases if_inv hF with ⟨h18, hF⟩ | ⟨h18, hF⟩
  refine w_cT (m := .top) h18 (s1 := (⟨[E3, E8], [], H⟩ : St)) (by kernel_rfl) (by kernel_rfl) ?_
  refine w_skip ?_
  exact ⟨(p0 == 24), hF, (by kernel_rfl)⟩
  refine w_cF (m := .top) h18 (s1 := S20) (by kernel_rfl) (by kernel_rfl) ?_
  refine w_seq ?_
  refine w_reg ⟨[E3, E10], [], H⟩ (by kernel_rfl) ?_
  refine w_join (α := (Bool)) (fun x => (⟨[E3, (28, .one .top (.bool x))], [], H⟩ : St)) (fun x => ref02_Shape_j7 p0 x = some ra) ?_ ?_
  rintro j19 hF
  replace hF : ref02_Shape_j7 p0 j19 = some ra := hF
  unfold ref02_Shape_j7 at hF
  exact ⟨j19, hF, (by kernel_rfl)⟩
  rcases if_inv hF with ⟨h20, hF⟩ | ⟨h20, hF⟩
  refine w_cT (m := .top) h20 (s1 := (⟨[E3, E10], [], H⟩ : St)) (by kernel_rfl) (by kernel_rfl) ?_
  refine w_skip ?_
  exact ⟨(p0 == 25), hF, (by kernel_rfl)⟩
  refine w_cF (m := .top) h20 (s1 := S20) (by kernel_rfl) (by kernel_rfl) ?_
  refine w_seq ?_
  refine w_reg ⟨[E3, E11], [], H⟩ (by kernel_rfl) ?_
  refine w_join (α := (Bool)) (fun x => (⟨[E3, (28, .one .top (.bool x))], [], H⟩ : St)) (fun x => ref02_Shape_j8 p0 x = some ra) ?_ ?_
  rintro j21 hF
  replace hF : ref02_Shape_j8 p0 j21 = some ra := hF
  unfold ref02_Shape_j8 at hF
  exact ⟨j21, hF, (by kernel_rfl)⟩
  rcases if_inv hF with ⟨h22, hF⟩ | ⟨h22, hF⟩
  refine w_cT (m := .top) h22 (s1 := (⟨[E3, E11], [], H⟩ : St)) (by kernel_rfl) (by kernel_rfl) ?_
  refine w_skip ?_
  exact ⟨(p0 == 27), hF, (by kernel_rfl)⟩
  refine w_cF (m := .top) h22 (s1 := S20) (by kernel_rfl) (by kernel_rfl) ?_
  refine w_seq ?_
  refine w_reg ⟨[E3, E12], [], H⟩ (by kernel_rfl) ?_
  refine w_join (α := (Bool)) (fun x => (⟨[E3, (28, .one .top (.bool x))], [], H⟩ : St)) (fun x => ref02_Shape_j9 p0 x = some ra) ?_ ?_
  rintro j23 hF
  replace hF : ref02_Shape_j9 p0 j23 = some ra := hF
  unfold ref02_Shape_j9 at hF
  exact ⟨j23, hF, (by kernel_rfl)⟩
  rcases if_inv hF with ⟨h24, hF⟩ | ⟨h24, hF⟩
  refine w_cT (m := .top) h24 (s1 := (⟨[E3, E12], [], H⟩ : St)) (by kernel_rfl) (by kernel_rfl) ?_
  refine w_skip ?_
  exact ⟨(p0 == 29), hF, (by kernel_rfl)⟩
  refine w_cF (m := .top) h24 (s1 := S20) (by kernel_rfl) (by kernel_rfl) ?_
  refine w_seq ?_
  refine w_reg ⟨[E3, E13], [], H⟩ (by kernel_rfl) ?_
  refine w_join (α := (Bool)) (fun x => (⟨[E3, (28, .one .top (.bool x))], [], H⟩ : St)) (fun x => ref02_Shape_j10 p0 x = some ra) ?_ ?_
  rintro j25 hF
  replace hF : ref02_Shape_j10 p0 j25 = some ra := hF
  unfold ref02_Shape_j10 at hF
  exact ⟨j25, hF, (by kernel_rfl)⟩
  rcases if_inv hF with ⟨h26, hF⟩ | ⟨h26, hF⟩
  refine w_cT (m := .top) h26 (s1 := (⟨[E3, E13], [], H⟩ : St)) (by kernel_rfl) (by kernel_rfl) ?_
  refine w_skip ?_
  exact ⟨(p0 == 31), hF, (by kernel_rfl)⟩
  refine w_cF (m := .top) h26 (s1 := S20) (by kernel_rfl) (by kernel_rfl) ?_
  refine w_reg ⟨[E3, (28, .one .top (.bool (p0 == 32)))], [], H⟩ (by kernel_rfl) ?_
  exact ⟨(p0 == 32), hF, (by kernel_rfl)⟩
  rcases if_inv hF with ⟨h27, hF⟩ | ⟨h27, hF⟩
  refine w_cT (m := .top) h27 (s1 := (⟨[E3, E7], [], H⟩ : St)) (by kernel_rfl) (by kernel_rfl) ?_
  refine w_skip ?_
  exact ⟨(p0 == 4), hF, (by kernel_rfl)⟩
  refine w_cF (m := .top) h27 (s1 := S20) (by kernel_rfl) (by kernel_rfl) ?_
  refine w_seq ?_
  refine w_reg ⟨[E3, E14], [], H⟩ (by kernel_rfl) ?_
  refine w_join (α := (Bool)) (fun x => (⟨[E3, (24, .one .top (.bool x))], [], H⟩ : St)) (fun x => ref02_Shape_j11 p0 x = some ra) ?_ ?_
  rintro j28 hF
  replace hF : ref02_Shape_j11 p0 j28 = some ra := hF
  unfold ref02_Shape_j11 at hF
  exact ⟨j28, hF, (by kernel_rfl)⟩
  rcases if_inv hF with ⟨h29, hF⟩ | ⟨h29, hF⟩
  refine w_cT (m := .top) h29 (s1 := (⟨[E3, E14], [], H⟩ : St)) (by kernel_rfl) (by kernel_rfl) ?_
  refine w_skip ?_
  exact ⟨(p0 == 26), hF, (by kernel_rfl)⟩
  refine w_cF (m := .top) h29 (s1 := S20) (by kernel_rfl) (by kernel_rfl) ?_
  refine w_reg ⟨[E3, (24, .one .top (.bool (p0 == 34)))], [], H⟩ (by kernel_rfl) ?_
  exact ⟨(p0 == 34), hF, (by kernel_rfl)⟩
  rcases if_inv hF with ⟨h30, hF⟩ | ⟨h30, hF⟩
  refine w_cT (m := .top) h30 (s1 := (⟨[E3, E6], [], H⟩ : St)) (by kernel_rfl) (by kernel_rfl) ?_
  refine w_skip ?_
  exact ⟨(p0 == 5), hF, (by kernel_rfl)⟩
  refine w_cF (m := .top) h30 (s1 := S20) (by kernel_rfl) (by kernel_rfl) ?_
  refine w_seq ?_
  refine w_reg ⟨[E3, E15], [], H⟩ (by kernel_rfl) ?_
  refine w_join (α := (Bool)) (fun x => (⟨[E3, (20, .one .top (.bool x))], [], H⟩ : St)) (fun x => ref02_Shape_j12 p0 x = some ra) ?_ ?_
  rintro j31 hF
  replace hF : ref02_Shape_j12 p0 j31 = some ra := hF
  unfold ref02_Shape_j12 at hF
  exact ⟨j31, hF, (by kernel_rfl)⟩
  rcases if_inv hF with ⟨h32, hF⟩ | ⟨h32, hF⟩
  refine w_cT (m := .top) h32 (s1 := (⟨[E3, E15], [], H⟩ : St)) (by kernel_rfl) (by kernel_rfl) ?_
  refine w_skip ?_
  exact ⟨(p0 == 18), hF, (by kernel_rfl)⟩
  refine w_cF (m := .top) h32 (s1 := S20) (by kernel_rfl) (by kernel_rfl) ?_
  refine w_reg ⟨[E3, (20, .one .top (.bool (p0 == 19)))], [], H⟩ (by kernel_rfl) ?_
  exact ⟨(p0 == 19), hF, (by kernel_rfl)⟩
  rcases if_inv hF with ⟨h33, hF⟩ | ⟨h33, hF⟩
  refine w_cT (m := .top) h33 (s1 := (⟨[E3, E5], [], H⟩ : St)) (by kernel_rfl) (by kernel_rfl) ?_
  refine w_skip ?_
  exact ⟨(p0 == 3), hF, (by kernel_rfl)⟩
  refine w_cF (m := .top) h33 (s1 := S20) (by kernel_rfl) (by kernel_rfl) ?_
  refine w_seq ?_
  refine w_reg ⟨[E3, E16], [], H⟩ (by kernel_rfl) ?_
  refine w_join (α := (Bool)) (fun x => (⟨[E3, (16, .one .top (.bool x))], [], H⟩ : St)) (fun x => ref02_Shape_j13 p0 x = some ra) ?_ ?_
  rintro j34 hF
  replace hF : ref02_Shape_j13 p0 j34 = some ra := hF
  unfold ref02_Shape_j13 at hF
  exact ⟨j34, hF, (by kernel_rfl)⟩
  rcases if_inv hF with ⟨h35, hF⟩ | ⟨h35, hF⟩
  refine w_cT (m := .top) h35 (s1 := (⟨[E3, E16], [], H⟩ : St)) (by kernel_rfl) (by kernel_rfl) ?_
  refine w_skip ?_
  exact ⟨(p0 == 30), hF, (by kernel_rfl)⟩
  refine w_cF (m := .top) h35 (s1 := S20) (by kernel_rfl) (by kernel_rfl) ?_
  refine w_reg ⟨[E3, (16, .one .top (.bool (p0 == 33)))], [], H⟩ (by kernel_rfl) ?_
  exact ⟨(p0 == 33), hF, (by kernel_rfl)⟩
  rcases if_inv hF with ⟨h36, hF⟩ | ⟨h36, hF⟩
  refine w_cT (m := .top) h36 (s1 := (⟨[E3, E4], [], H⟩ : St)) (by kernel_rfl) (by kernel_rfl) ?_
  refine w_skip ?_
  exact ⟨(p0 == 2), hF, (by kernel_rfl)⟩
  refine w_cF (m := .top) h36 (s1 := S20) (by kernel_rfl) (by kernel_rfl) ?_
  refine w_seq ?_
  refine w_reg ⟨[E3, E17], [], H⟩ (by kernel_rfl) ?_
  refine w_join (α := (Bool)) (fun x => (⟨[E3, (12, .one .top (.bool x))], [], H⟩ : St)) (fun x => ref02_Shape_j14 p0 x = some ra) ?_ ?_
  rintro j37 hF
  replace hF : ref02_Shape_j14 p0 j37 = some ra := hF
  unfold ref02_Shape_j14 at hF
  exact ⟨j37, hF, (by kernel_rfl)⟩
  rcases if_inv hF with ⟨h38, hF⟩ | ⟨h38, hF⟩
  refine w_cT (m := .top) h38 (s1 := (⟨[E3, E17], [], H⟩ : St)) (by kernel_rfl) (by kernel_rfl) ?_
  refine w_skip ?_
  exact ⟨(p0 == 20), hF, (by kernel_rfl)⟩
  refine w_cF (m := .top) h38 (s1 := S20) (by kernel_rfl) (by kernel_rfl) ?_
  refine w_reg ⟨[E3, (12, .one .top (.bool (p0 == 21)))], [], H⟩ (by kernel_rfl) ?_
  exact ⟨(p0 == 21), hF, (by kernel_rfl)⟩
noncomputable def ref02_has  (p0 : Int) : Option (Bool × Bool × Bool) :=
  some (((decide (p0 ≥ 1)) && (decide (p0 ≤ 6))), ((decide (p0 ≥ 3)) && (decide (p0 ≤ 5))), (p0 == 5))
theorem ok_ref02_has (H : Heap) {p0 : Int} {ra : Bool} {rb : Bool} {rc : Bool} (hF : ref02_has p0 = some (ra, rb, rc)) : evS X 114 [.one .top (.int .i64 p0)] H = some (.tup [.one .top (.bool ra), .one .top (.bool rb), .one .top (.bool rc)], H) := by
  let E1 : EN := (0, .one .top (.int .i64 p0))
  let E2 : EN := (5, .one .top (.bool ((decide (p0 ≥ 1)) && (decide (p0 ≤ 6)))))
  let E3 : EN := (7, .one .top (.int .i64 p0))
  let E4 : EN := (13, .one .top (.int .i64 p0))
  refine w_fun Try.func114 rfl (by kernel_rfl) true (by kernel_rfl) (s0 := (⟨[E1], [], H⟩ : St)) (by kernel_rfl) ?_
  unfold ref02_has at hF
  refine w_seq ?_
  refine w_reg ⟨[E1], [], H⟩ (by kernel_rfl) ?_
  refine w_seq ?_
  refine w_regO ⟨[E1, E2], [], H⟩ ?_ ?_
  refine o_run 3 ⟨[E1, E3, (8, .one .top (.bool (decide (p0 ≥ 1)))), (9, .one .top (.bool (decide (p0 ≥ 1))))], [], H⟩ (by kernel_rfl) (by kernel_rfl) ?_
  rcases bool_cases (decide (p0 ≥ 1)) with h1 | h1
  refine o_eq (congrArg (fun q => (⟨[E1, E3, (8, .one .top (.bool q)), (9, .one .top (.bool q))], [], H⟩ : St)) h1) ?_
  refine o_run 4 ⟨[E1, (5, .one .top (.bool (decide (p0 ≤ 6)))), E3, (8, .one .top (.bool true)), (9, .one .top (.bool true)), (10, .one .top (.int .i64 p0)), (11, .one .top (.bool (decide (p0 ≤ 6)))), (12, .one .top (.bool (decide (p0 ≤ 6))))], [], H⟩ (by kernel_rfl) (by kernel_rfl) ?_
  refine o_eq2 (congrArg (fun q0 => (⟨[E1, (5, .one .top (.bool q0))], [], H⟩ : St)) (show (decide (p0 ≤ 6)) = ((decide (p0 ≥ 1)) && (decide (p0 ≤ 6))) by simp [h1])) ?_
  exact o_end (by kernel_rfl) (by kernel_rfl)
  refine o_eq (congrArg (fun q => (⟨[E1, E3, (8, .one .top (.bool q)), (9, .one .top (.bool q))], [], H⟩ : St)) h1) ?_
  refine o_run 4 ⟨[E1, (5, .one .top (.bool false)), E3, (8, .one .top (.bool false)), (9, .one .top (.bool false)), (10, .tup []), (11, .tup []), (12, .one .top (.bool false))], [], H⟩ (by kernel_rfl) (by kernel_rfl) ?_
  refine o_eq2 (congrArg (fun q0 => (⟨[E1, (5, .one .top (.bool q0))], [], H⟩ : St)) (show false = ((decide (p0 ≥ 1)) && (decide (p0 ≤ 6))) by simp [h1])) ?_
  exact o_end (by kernel_rfl) (by kernel_rfl)
  refine w_seq ?_
  refine w_regO ⟨[E1, E2, (6, .one .top (.bool ((decide (p0 ≥ 3)) && (decide (p0 ≤ 5)))))], [], H⟩ ?_ ?_
  refine o_run 3 ⟨[E1, E2, E4, (14, .one .top (.bool (decide (p0 ≥ 3)))), (15, .one .top (.bool (decide (p0 ≥ 3))))], [], H⟩ (by kernel_rfl) (by kernel_rfl) ?_
  rcases bool_cases (decide (p0 ≥ 3)) with h2 | h2
  refine o_eq (congrArg (fun q => (⟨[E1, E2, E4, (14, .one .top (.bool q)), (15, .one .top (.bool q))], [], H⟩ : St)) h2) ?_
  refine o_run 4 ⟨[E1, E2, (6, .one .top (.bool (decide (p0 ≤ 5)))), E4, (14, .one .top (.bool true)), (15, .one .top (.bool true)), (16, .one .top (.int .i64 p0)), (17, .one .top (.bool (decide (p0 ≤ 5)))), (18, .one .top (.bool (decide (p0 ≤ 5))))], [], H⟩ (by kernel_rfl) (by kernel_rfl) ?_
  refine o_eq2 (congrArg (fun q0 => (⟨[E1, E2, (6, .one .top (.bool q0))], [], H⟩ : St)) (show (decide (p0 ≤ 5)) = ((decide (p0 ≥ 3)) && (decide (p0 ≤ 5))) by simp [h2])) ?_
  exact o_end (by kernel_rfl) (by kernel_rfl)
  refine o_eq (congrArg (fun q => (⟨[E1, E2, E4, (14, .one .top (.bool q)), (15, .one .top (.bool q))], [], H⟩ : St)) h2) ?_
  refine o_run 4 ⟨[E1, E2, (6, .one .top (.bool false)), E4, (14, .one .top (.bool false)), (15, .one .top (.bool false)), (16, .tup []), (17, .tup []), (18, .one .top (.bool false))], [], H⟩ (by kernel_rfl) (by kernel_rfl) ?_
  refine o_eq2 (congrArg (fun q0 => (⟨[E1, E2, (6, .one .top (.bool q0))], [], H⟩ : St)) (show false = ((decide (p0 ≥ 3)) && (decide (p0 ≤ 5))) by simp [h2])) ?_
  exact o_end (by kernel_rfl) (by kernel_rfl)
  refine w_seq ?_
  refine w_reg ⟨[(2, .one .top (.bool ((decide (p0 ≥ 1)) && (decide (p0 ≤ 6))))), (3, .one .top (.bool ((decide (p0 ≥ 3)) && (decide (p0 ≤ 5))))), (4, .one .top (.bool (p0 == 5)))], [], H⟩ (by kernel_rfl) ?_
  refine w_ret ?_
  obtain ⟨e0, e1, e2⟩ := some3_inv hF
  subst e0
  subst e1
  subst e2
  exact fin_pure (v := .tup [.one .top (.bool ((decide (p0 ≥ 1)) && (decide (p0 ≤ 6)))), .one .top (.bool ((decide (p0 ≥ 3)) && (decide (p0 ≤ 5)))), .one .top (.bool (p0 == 5))]) (by kernel_rfl) (by kernel_rfl) rfl (by kernel_rfl)
noncomputable def ref01_Power_L1 (p0 : Int) (a1 : Int) (a2 : Int) : Option ((Int × Int) ⊕ ((Int))) :=
  if (decide (a2 < p0)) = true then (some (Sum.inl ((IntKind.wrap .i64 (a1 * 2)), (IntKind.wrap .i64 (a2 + 1)))))
  else (some (Sum.inr a1))
noncomputable def ref01_Power  (p0 : Int) : Option (Int) :=
  bind1 (loopO (fun (x : (Int × Int)) => ref01_Power_L1 p0 x.1 x.2) (1, 0)) (fun b6 =>
  some b6)
theorem ok_ref01_Power (H : Heap) {p0 : Int} {ra : Int} (hF : ref01_Power p0 = some ra) : evS X 134 [.one .top (.int .i64 p0)] H = some (.one .top (.int .i64 ra), H) := by
  let E1 : EN := (0, .one .top (.int .i64 p0))
  let E2 : EN := (3, .one .top (.int .i64 1))
  refine w_fun Try.func134 rfl (by kernel_rfl) true (by kernel_rfl) (s0 := (⟨[E1], [], H⟩ : St)) (by kernel_rfl) ?_
  unfold ref01_Power at hF
  refine w_seq ?_
  refine w_reg ⟨[E1], [], H⟩ (by kernel_rfl) ?_
  refine w_seq ?_
  refine w_reg ⟨[E1, E2], [], H⟩ (by kernel_rfl) ?_
  refine w_seq ?_
  refine w_seq ?_
  refine w_reg ⟨[E1, E2, (4, .one .top (.int .i64 0))], [], H⟩ (by kernel_rfl) ?_
  refine w_block ?_
  obtain ⟨r4, hL5, hF⟩ := bind1_inv hF
  refine w_loop (fun (x : (Int × Int)) => (⟨[E1, (3, .one .top (.int .i64 x.1)), (4, .one .top (.int .i64 x.2))], [], H⟩ : St)) (fun (y : (Int)) => ((.exit 0, (⟨[(3, .one .top (.int .i64 y))], [], H⟩ : St)) : Ex × St)) hL5 (by kernel_rfl) ?_ ?_
  rintro ⟨a1, a2⟩ o hF
  replace hF : ref01_Power_L1 p0 a1 a2 = some o := hF
  let E3 : EN := (3, .one .top (.int .i64 a1))
  let E4 : EN := (4, .one .top (.int .i64 a2))
  let E5 : EN := (3, .one .top (.int .i64 (IntKind.wrap .i64 (a1 * 2))))
  unfold ref01_Power_L1 at hF
  refine w_seq ?_
  refine w_seq ?_
  refine w_reg ⟨[E1, E3, E4, (7, .one .top (.bool (decide (a2 < p0))))], [], H⟩ (by kernel_rfl) ?_
  rcases if_inv hF with ⟨h3, hF⟩ | ⟨h3, hF⟩
  refine w_cT (m := .top) h3 (s1 := (⟨[E1, E3, E4], [], H⟩ : St)) (by kernel_rfl) (by kernel_rfl) ?_
  refine w_skip ?_
  refine w_seq ?_
  refine w_block ?_
  refine w_reg ⟨[E1, E5, E4], [], H⟩ (by kernel_rfl) ?_
  refine w_reg ⟨[E1, E5, (4, .one .top (.int .i64 (IntKind.wrap .i64 (a2 + 1))))], [], H⟩ (by kernel_rfl) ?_
  cases hF
  exact ⟨_, rfl, (by kernel_rfl)⟩
  refine w_cF (m := .top) h3 (s1 := (⟨[E3], [], H⟩ : St)) (by kernel_rfl) (by kernel_rfl) ?_
  refine w_exit ?_
  cases hF
  exact ⟨_, rfl, (by kernel_rfl)⟩
  obtain ⟨b6, hy⟩ : ∃ y, y = r4 := ⟨_, rfl⟩
  subst hy
  refine w_oe (i := 0) (s := (⟨[(3, .one .top (.int .i64 b6))], [], H⟩ : St)) (by kernel_rfl) ?_
  refine e_here ?_
  refine w_seq ?_
  refine w_reg ⟨[(2, .one .top (.int .i64 b6))], [], H⟩ (by kernel_rfl) ?_
  refine w_ret ?_
  obtain e0 := some1_inv hF
  subst e0
  exact fin_pure (v := .one .top (.int .i64 b6)) (by kernel_rfl) (by kernel_rfl) rfl (by kernel_rfl)
noncomputable def ref01_Round_j2 (j2 : Int) : Option (Int) :=
  some (IntKind.wrap .i32 j2)
noncomputable def ref01_Round_j1 (j1 : Int) : Option (Int) :=
  if (decide (j1 ≥ 2147483648)) = true then (ref01_Round_j2 (IntKind.wrap .i64 (j1 - 4294967296)))
  else (ref01_Round_j2 j1)
noncomputable def ref01_Round  (p0 : Int) : Option (Int) :=
  if (decide ((Int.tmod p0 4294967296) < 0)) = true then (ref01_Round_j1 (IntKind.wrap .i64 ((Int.tmod p0 4294967296) + 4294967296)))
  else (ref01_Round_j1 (Int.tmod p0 4294967296))
theorem ok_ref01_Round (H : Heap) {p0 : Int} {ra : Int} (hF : ref01_Round p0 = some ra) : evS X 71 [.one .top (.int .i64 p0)] H = some (.one .top (.int .i32 ra), H) := by
  let E1 : EN := (0, .one .top (.int .i64 p0))
  let E2 : EN := (3, .one .top (.int .i64 (Int.tmod p0 4294967296)))
  let S4 : St := ⟨[E2], [], H⟩
  refine w_fun Try.func71 rfl (by kernel_rfl) true (by kernel_rfl) (s0 := (⟨[E1], [], H⟩ : St)) (by kernel_rfl) ?_
  unfold ref01_Round at hF
  refine w_seq ?_
  refine w_reg ⟨[E1], [], H⟩ (by kernel_rfl) ?_
  refine w_seq ?_
  refine w_reg S4 (by kernel_rfl) ?_
  refine w_seq ?_
  refine w_seq ?_
  refine w_reg ⟨[E2, (7, .one .top (.bool (decide ((Int.tmod p0 4294967296) < 0))))], [], H⟩ (by kernel_rfl) ?_
  refine w_join (α := (Int)) (fun x => (⟨[(3, .one .top (.int .i64 x))], [], H⟩ : St)) (fun x => ref01_Round_j1 x = some ra) ?_ ?_
  rintro j1 hF
  replace hF : ref01_Round_j1 j1 = some ra := hF
  let E3 : EN := (3, .one .top (.int .i64 j1))
  unfold ref01_Round_j1 at hF
  refine w_seq ?_
  refine w_seq ?_
  refine w_reg ⟨[E3, (11, .one .top (.bool (decide (j1 ≥ 2147483648))))], [], H⟩ (by kernel_rfl) ?_
  refine w_join (α := (Int)) (fun x => (⟨[(3, .one .top (.int .i64 x))], [], H⟩ : St)) (fun x => ref01_Round_j2 x = some ra) ?_ ?_
  rintro j2 hF
  replace hF : ref01_Round_j2 j2 = some ra := hF
  unfold ref01_Round_j2 at hF
  refine w_seq ?_
  refine w_reg ⟨[(2, .one .top (.int .i32 (IntKind.wrap .i32 j2)))], [], H⟩ (by kernel_rfl) ?_
  refine w_ret ?_
  obtain e0 := some1_inv hF
  subst e0
  exact fin_pure (v := .one .top (.int .i32 (IntKind.wrap .i32 j2))) (by kernel_rfl) (by kernel_rfl) rfl (by kernel_rfl)
  rcases if_inv hF with ⟨h3, hF⟩ | ⟨h3, hF⟩
  refine w_cT (m := .top) h3 (s1 := (⟨[E3], [], H⟩ : St)) (by kernel_rfl) (by kernel_rfl) ?_
  refine w_reg ⟨[(3, .one .top (.int .i64 (IntKind.wrap .i64 (j1 - 4294967296))))], [], H⟩ (by kernel_rfl) ?_
  exact ⟨(IntKind.wrap .i64 (j1 - 4294967296)), hF, (by kernel_rfl)⟩
  refine w_cF (m := .top) h3 (s1 := (⟨[E3], [], H⟩ : St)) (by kernel_rfl) (by kernel_rfl) ?_
  refine w_skip ?_
  exact ⟨j1, hF, (by kernel_rfl)⟩
  rcases if_inv hF with ⟨h4, hF⟩ | ⟨h4, hF⟩
  refine w_cT (m := .top) h4 (s1 := S4) (by kernel_rfl) (by kernel_rfl) ?_
  refine w_reg ⟨[(3, .one .top (.int .i64 (IntKind.wrap .i64 ((Int.tmod p0 4294967296) + 4294967296))))], [], H⟩ (by kernel_rfl) ?_
  exact ⟨(IntKind.wrap .i64 ((Int.tmod p0 4294967296) + 4294967296)), hF, (by kernel_rfl)⟩
  refine w_cF (m := .top) h4 (s1 := S4) (by kernel_rfl) (by kernel_rfl) ?_
  refine w_skip ?_
  exact ⟨(Int.tmod p0 4294967296), hF, (by kernel_rfl)⟩
noncomputable def ref01_Sext_j1 (j6 : Int) : Option (Int) :=
  bind1 (ref01_Round j6) fun r7 =>
  some r7
noncomputable def ref01_Sext  (p0 : Int) (p1 : Int) : Option (Int) :=
  if (decide (p1 < 1)) = true then (some 0)
  else (bind1 (ref01_Power (if 32 < p1 then 32 else p1)) fun r2 =>
  bind1 (remI .i64 (IntKind.wrap .i64 p0) r2) fun v4 =>
  if (decide (v4 ≥ (IntKind.wrap .i64 (Int.tdiv r2 2)))) = true then (ref01_Sext_j1 (IntKind.wrap .i64 (v4 - r2)))
  else (ref01_Sext_j1 v4))
theorem ok_ref01_Sext (H : Heap) {p0 : Int} {p1 : Int} {ra : Int} (hF : ref01_Sext p0 p1 = some ra) : evS X 115 [.one .top (.int .u32 p0), .one .top (.int .i64 p1)] H = some (.one .top (.int .i32 ra), H) := by
  let E1 : EN := (0, .one .top (.int .u32 p0))
  let E2 : EN := (1, .one .top (.int .i64 p1))
  let E4 : EN := (9, .one .top (.int .i64 p1))
  let E5 : EN := (10, .one .top (.int .i64 (if 32 < p1 then 32 else p1)))
  let E8 : EN := (12, .one .top (.int .u32 p0))
  let E9 : EN := (13, .one .top (.int .i64 (IntKind.wrap .i64 p0)))
  let S16 : St := ⟨[E1, E2], [], H⟩
  let S17 : St := ⟨[E1, E2, E4, E5], [], H⟩
  refine w_fun Try.func115 rfl (by kernel_rfl) true (by kernel_rfl) (s0 := S16) (by kernel_rfl) ?_
  unfold ref01_Sext at hF
  refine w_seq ?_
  refine w_reg S16 (by kernel_rfl) ?_
  refine w_seq ?_
  refine w_seq ?_
  refine w_reg ⟨[E1, E2, (8, .one .top (.bool (decide (p1 < 1))))], [], H⟩ (by kernel_rfl) ?_
  rcases if_inv hF with ⟨h1, hF⟩ | ⟨h1, hF⟩
  refine w_cT (m := .top) h1 (s1 := (⟨[], [], H⟩ : St)) (by kernel_rfl) (by kernel_rfl) ?_
  refine w_seq ?_
  refine w_reg ⟨[(4, .one .top (.int .i32 0))], [], H⟩ (by kernel_rfl) ?_
  refine w_ret ?_
  obtain e0 := some1_inv hF
  subst e0
  exact fin_pure (v := .one .top (.int .i32 0)) (by kernel_rfl) (by kernel_rfl) rfl (by kernel_rfl)
  refine w_cF (m := .top) h1 (s1 := S16) (by kernel_rfl) (by kernel_rfl) ?_
  refine w_skip ?_
  refine w_seq ?_
  obtain ⟨r2, c3, hF⟩ := bind1_inv hF
  let E3 : EN := (5, .one .top (.int .i64 r2))
  let E6 : EN := (11, .one .top (.int .i64 r2))
  let E10 : EN := (14, .one .top (.int .i64 r2))
  let S18 : St := ⟨[E1, E3, E8, E9, E10], [], H⟩
  refine w_regO ⟨[E1, E3], [], H⟩ ?_ ?_
  refine o_run 2 S17 (by kernel_rfl) (by kernel_rfl) ?_
  refine o_one ⟨[E1, E2, E4, E5, E6], [], H⟩ (st_call (d := (some 11)) (fz := false) (pure := true) (own := false) S17 (ok_ref01_Power H c3) (by kernel_rfl) (by kernel_rfl)) ?_
  refine o_run 1 ⟨[E1, E2, E3, E4, E5, E6], [], H⟩ (by kernel_rfl) (by kernel_rfl) ?_
  exact o_end (by kernel_rfl) (by kernel_rfl)
  refine w_seq ?_
  obtain ⟨v4, h5, hF⟩ := bind1_inv hF
  let E7 : EN := (6, .one .top (.int .i64 v4))
  let E11 : EN := (15, .one .top (.int .i64 v4))
  refine w_regO ⟨[E3, E7], [], H⟩ ?_ ?_
  refine o_run 3 S18 (by kernel_rfl) (by kernel_rfl) ?_
  refine o_one ⟨[E1, E3, E8, E9, E10, E11], [], H⟩ (st_binI S18 .i64 h5 (ev_rem (P := X.P) (ty := 3) (x := (.tmp 13)) (y := (.tmp 14)) (m := .top) (m' := .top) (k := .i64) (a := (IntKind.wrap .i64 p0)) (b := r2)) (some 15) (by kernel_rfl) (by kernel_rfl)) ?_
  refine o_run 1 ⟨[E1, E3, E7, E8, E9, E10, E11], [], H⟩ (by kernel_rfl) (by kernel_rfl) ?_
  exact o_end (by kernel_rfl) (by kernel_rfl)
  refine w_seq ?_
  refine w_seq ?_
  refine w_reg ⟨[E3, E7, (19, .one .top (.bool (decide (v4 ≥ (IntKind.wrap .i64 (Int.tdiv r2 2))))))], [], H⟩ (by kernel_rfl) ?_
  refine w_join (α := (Int)) (fun x => (⟨[(6, .one .top (.int .i64 x))], [], H⟩ : St)) (fun x => ref01_Sext_j1 x = some ra) ?_ ?_
  rintro j6 hF
  replace hF : ref01_Sext_j1 j6 = some ra := hF
  let E13 : EN := (6, .one .top (.int .i64 j6))
  let E14 : EN := (23, .one .top (.int .i64 j6))
  unfold ref01_Sext_j1 at hF
  refine w_seq ?_
  obtain ⟨r7, c8, hF⟩ := bind1_inv hF
  let E12 : EN := (4, .one .top (.int .i32 r7))
  let E15 : EN := (24, .one .top (.int .i32 r7))
  refine w_regO ⟨[E12], [], H⟩ ?_ ?_
  refine o_run 1 ⟨[E13, E14], [], H⟩ (by kernel_rfl) (by kernel_rfl) ?_
  refine o_one ⟨[E13, E14, E15], [], H⟩ (st_call (d := (some 24)) (fz := false) (pure := true) (own := false) (⟨[E13, E14], [], H⟩ : St) (ok_ref01_Round H c8) (by kernel_rfl) (by kernel_rfl)) ?_
  refine o_run 1 ⟨[E12, E13, E14, E15], [], H⟩ (by kernel_rfl) (by kernel_rfl) ?_
  exact o_end (by kernel_rfl) (by kernel_rfl)
  refine w_ret ?_
  obtain e0 := some1_inv hF
  subst e0
  exact fin_pure (v := .one .top (.int .i32 r7)) (by kernel_rfl) (by kernel_rfl) rfl (by kernel_rfl)
  rcases if_inv hF with ⟨h9, hF⟩ | ⟨h9, hF⟩
  refine w_cT (m := .top) h9 (s1 := (⟨[E3, E7], [], H⟩ : St)) (by kernel_rfl) (by kernel_rfl) ?_
  refine w_reg ⟨[(6, .one .top (.int .i64 (IntKind.wrap .i64 (v4 - r2))))], [], H⟩ (by kernel_rfl) ?_
  exact ⟨(IntKind.wrap .i64 (v4 - r2)), hF, (by kernel_rfl)⟩
  refine w_cF (m := .top) h9 (s1 := (⟨[E7], [], H⟩ : St)) (by kernel_rfl) (by kernel_rfl) ?_
  refine w_skip ?_
  exact ⟨v4, hF, (by kernel_rfl)⟩
end Go.Proofs.Abs
