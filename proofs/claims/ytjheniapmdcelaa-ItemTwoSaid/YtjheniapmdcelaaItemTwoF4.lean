/- The law ItemTwo: whatever the input, it answers true. No conditions. (Part ItemTwoF4 of its proof.) -/
import Derived.Test.YtjheniapmdcelaaItemTwoF3
set_option linter.unusedVariables false
set_option linter.unusedSimpArgs false
set_option linter.unusedSectionVars false
/- Printed by gen (walk.py). -/
namespace Go.Proofs.Abs
open Go Go.Proofs
set_option linter.unusedVariables false
set_option maxRecDepth 100000
set_option maxHeartbeats 0
noncomputable def law19_ItemTwo_j2 (H23 : Heap) (i8 : Nat) (o9 : Nat) (r21 : Int) (j25 : Int) (j26 : Int) : Option (Heap × Bool) :=
  bind3 (law19_ended H23 (Ptr.at i8 o9) 0) fun H30 r27 r28 =>
  bind1 (if r28 = true then (if (r21 == 0) = true then (bind1 (law19_run (Ptr.at i8 o9) r27) fun r33 =>
  bind1 (law19_stopped r33 (r27.length : Int) j25 j26) fun r35 =>
  some r35) else (some false)) else (some false)) fun w37 =>
  some (H30, w37)
noncomputable def law19_ItemTwo_j3 (H23 : Heap) (i8 : Nat) (o9 : Nat) (r21 : Int) (r40 : Int) (j43 : Int) : Option (Heap × Bool) :=
  law19_ItemTwo_j2 H23 i8 o9 r21 r40 j43
noncomputable def law19_ItemTwo_j4 (p0 : ByteArray) (p1 : Int) (p2 : Int) (H23 : Heap) (i8 : Nat) (o9 : Nat) (r21 : Int) (j45 : Bool) : Option (Heap × Bool) :=
  if j45 = true then (bind1 (ref10_Compare p0 p1 p2) fun r47 =>
  bind1 (ref10_Truth r47) fun r49 =>
  law19_ItemTwo_j2 H23 i8 o9 r21 r49.N_ 0)
  else (some (H23, (r21 == 110)))
noncomputable def law19_ItemTwo_j5 (p0 : ByteArray) (p1 : Int) (p2 : Int) (H23 : Heap) (i8 : Nat) (o9 : Nat) (r21 : Int) (j52 : Bool) : Option (Heap × Bool) :=
  law19_ItemTwo_j4 p0 p1 p2 H23 i8 o9 r21 j52
noncomputable def law19_ItemTwo_j6 (p0 : ByteArray) (p1 : Int) (p2 : Int) (H23 : Heap) (i8 : Nat) (o9 : Nat) (r21 : Int) (j54 : Bool) : Option (Heap × Bool) :=
  law19_ItemTwo_j5 p0 p1 p2 H23 i8 o9 r21 j54
noncomputable def law19_ItemTwo_j7 (p0 : ByteArray) (p1 : Int) (p2 : Int) (H23 : Heap) (i8 : Nat) (o9 : Nat) (r21 : Int) (j56 : Bool) : Option (Heap × Bool) :=
  law19_ItemTwo_j6 p0 p1 p2 H23 i8 o9 r21 j56
noncomputable def law19_ItemTwo_j8 (p0 : ByteArray) (p1 : Int) (p2 : Int) (H23 : Heap) (i8 : Nat) (o9 : Nat) (r21 : Int) (j58 : Bool) : Option (Heap × Bool) :=
  law19_ItemTwo_j7 p0 p1 p2 H23 i8 o9 r21 j58
noncomputable def law19_ItemTwo_j1 (p0 : ByteArray) (p1 : Int) (p2 : Int) (H23 : Heap) (i8 : Nat) (o9 : Nat) (r21 : Int) (j24 : Bool) : Option (Heap × Bool) :=
  if j24 = true then (bind2 (ref10_Reckon p0 p1 p2) fun r40 r41 =>
  if (!r41) = true then (law19_ItemTwo_j3 H23 i8 o9 r21 r40 3)
  else (law19_ItemTwo_j3 H23 i8 o9 r21 r40 0))
  else (if (strEq p0 (ByteArray.mk #[61])) = true then (law19_ItemTwo_j4 p0 p1 p2 H23 i8 o9 r21 (strEq p0 (ByteArray.mk #[61])))
  else (if (strEq p0 (ByteArray.mk #[35])) = true then (law19_ItemTwo_j5 p0 p1 p2 H23 i8 o9 r21 (strEq p0 (ByteArray.mk #[35])))
  else (if (strEq p0 (ByteArray.mk #[60])) = true then (law19_ItemTwo_j6 p0 p1 p2 H23 i8 o9 r21 (strEq p0 (ByteArray.mk #[60])))
  else (if (strEq p0 (ByteArray.mk #[60, 61])) = true then (law19_ItemTwo_j7 p0 p1 p2 H23 i8 o9 r21 (strEq p0 (ByteArray.mk #[60, 61])))
  else (if (strEq p0 (ByteArray.mk #[62])) = true then (law19_ItemTwo_j8 p0 p1 p2 H23 i8 o9 r21 (strEq p0 (ByteArray.mk #[62])))
  else (law19_ItemTwo_j8 p0 p1 p2 H23 i8 o9 r21 (strEq p0 (ByteArray.mk #[62, 61]))))))))
noncomputable def law19_ItemTwo_j9 (p0 : ByteArray) (p1 : Int) (p2 : Int) (H23 : Heap) (i8 : Nat) (o9 : Nat) (r21 : Int) (j61 : Bool) : Option (Heap × Bool) :=
  law19_ItemTwo_j1 p0 p1 p2 H23 i8 o9 r21 j61
noncomputable def law19_ItemTwo_j10 (p0 : ByteArray) (p1 : Int) (p2 : Int) (H23 : Heap) (i8 : Nat) (o9 : Nat) (r21 : Int) (j63 : Bool) : Option (Heap × Bool) :=
  law19_ItemTwo_j9 p0 p1 p2 H23 i8 o9 r21 j63
noncomputable def law19_ItemTwo_j11 (p0 : ByteArray) (p1 : Int) (p2 : Int) (H23 : Heap) (i8 : Nat) (o9 : Nat) (r21 : Int) (j65 : Bool) : Option (Heap × Bool) :=
  law19_ItemTwo_j10 p0 p1 p2 H23 i8 o9 r21 j65
noncomputable def law19_ItemTwo (H : Heap) (p0 : ByteArray) (p1 : Int) (p2 : Int) : Option (Heap × Bool) :=
  bind2 (law19_awake H) fun H3 r1 =>
  if (!r1) = true then (some (H3, false))
  else (bind2 (law19_begun H3) fun H7 r5 =>
  (r5).bnd fun i8 o9 =>
  bind1 (get_item_Gen H7 i8 o9) fun x11 =>
  bind1 (emit_Code_Number H7 x11.Code_ 0 p1) fun H14 =>
  bind1 (item_Gen_Wait H14 (Ptr.at i8 o9)) fun H16 =>
  bind1 (get_item_Gen H16 i8 o9) fun x17 =>
  bind1 (emit_Code_Number H16 x17.Code_ 0 p2) fun H20 =>
  bind2 (item_Gen_Two H20 (Ptr.at i8 o9) p0) fun H23 r21 =>
  if (strEq p0 (ByteArray.mk #[43])) = true then (law19_ItemTwo_j1 p0 p1 p2 H23 i8 o9 r21 (strEq p0 (ByteArray.mk #[43])))
  else (if (strEq p0 (ByteArray.mk #[45])) = true then (law19_ItemTwo_j9 p0 p1 p2 H23 i8 o9 r21 (strEq p0 (ByteArray.mk #[45])))
  else (if (strEq p0 (ByteArray.mk #[42])) = true then (law19_ItemTwo_j10 p0 p1 p2 H23 i8 o9 r21 (strEq p0 (ByteArray.mk #[42])))
  else (if (strEq p0 (ByteArray.mk #[68, 73, 86])) = true then (law19_ItemTwo_j11 p0 p1 p2 H23 i8 o9 r21 (strEq p0 (ByteArray.mk #[68, 73, 86])))
  else (law19_ItemTwo_j11 p0 p1 p2 H23 i8 o9 r21 (strEq p0 (ByteArray.mk #[77, 79, 68])))))))
theorem ok_law19_ItemTwo (H : Heap) {p0 : ByteArray} {p1 : Int} {p2 : Int} {ra : Bool} {Hr : Heap} (hF : law19_ItemTwo H p0 p1 p2 = some (Hr, ra)) : evS X 3 [.one .top (.str p0), .one .top (.int .i32 p1), .one .top (.int .i32 p2)] H = some (.one .top (.bool ra), Hr) := by
  let E1 : EN := (0, .one .top (.str p0))
  let E2 : EN := (1, .one .top (.int .i32 p1))
  let E3 : EN := (2, .one .top (.int .i32 p2))
  let E5 : EN := (6, .one .top (.bool false))
  let E12 : EN := (22, .one .top (.int .i32 p1))
  let E17 : EN := (30, .one .top (.int .i32 p2))
  let E20 : EN := (33, .one .top (.str p0))
  let E22 : EN := (10, .one .top (.int .u32 0))
  let E23 : EN := (35, .one .top (.str p0))
  let E24 : EN := (38, .one .top (.bool (strEq p0 (ByteArray.mk #[43]))))
  let E31 : EN := (14, .one .top (.bool true))
  let E32 : EN := (72, .one .top (.bool true))
  let E33 : EN := (73, .one .top (.bool true))
  let E35 : EN := (75, .one .top (.bool true))
  let E36 : EN := (76, .one .top (.bool true))
  let E37 : EN := (77, .one .top (.bool true))
  let E46 : EN := (76, .one .top (.bool false))
  let E47 : EN := (77, .one .top (.bool false))
  let E48 : EN := (86, .one .top (.bool false))
  let E51 : EN := (45, .one .top (.str p0))
  let E52 : EN := (46, .one .top (.int .i32 p1))
  let E53 : EN := (47, .one .top (.int .i32 p2))
  let E56 : EN := (54, .one .top (.bool (strEq p0 (ByteArray.mk #[61]))))
  let E58 : EN := (61, .one .top (.str p0))
  let E59 : EN := (62, .one .top (.int .i32 p1))
  let E60 : EN := (63, .one .top (.int .i32 p2))
  let E63 : EN := (54, .one .top (.bool (strEq p0 (ByteArray.mk #[35]))))
  let E64 : EN := (54, .one .top (.bool (strEq p0 (ByteArray.mk #[60]))))
  let E65 : EN := (54, .one .top (.bool (strEq p0 (ByteArray.mk #[60, 61]))))
  let E66 : EN := (54, .one .top (.bool (strEq p0 (ByteArray.mk #[62]))))
  let E67 : EN := (38, .one .top (.bool (strEq p0 (ByteArray.mk #[45]))))
  let E68 : EN := (38, .one .top (.bool (strEq p0 (ByteArray.mk #[42]))))
  let E69 : EN := (38, .one .top (.bool (strEq p0 (ByteArray.mk #[68, 73, 86]))))
  let S70 : St := ⟨[E1, E2, E3], [], H⟩
  refine w_fun Try.func3 rfl (by kernel_rfl) false (by kernel_rfl) (s0 := S70) (by kernel_rfl) ?_
  unfold law19_ItemTwo at hF
  refine w_seq ?_
  refine w_reg S70 (by kernel_rfl) ?_
  refine w_seq ?_
  refine w_seq ?_
  obtain ⟨H3, r1, c2, hF⟩ := bind2_inv hF
  let E4 : EN := (16, .one .top (.bool (!r1)))
  let S71 : St := ⟨[E1, E2, E3], [], H3⟩
  refine w_regO ⟨[E1, E2, E3, E4], [], H3⟩ ?_ ?_
  refine o_one ⟨[E1, E2, E3, (15, .one .top (.bool r1))], [], H3⟩ (st_call (d := (some 15)) (fz := false) (pure := false) (own := false) S70 (ok_law19_awake H c2) (by kernel_rfl) (by kernel_rfl)) ?_
  refine o_run 1 ⟨[E1, E2, E3, (15, .one .top (.bool r1)), E4], [], H3⟩ (by kernel_rfl) (by kernel_rfl) ?_
  exact o_end (by kernel_rfl) (by kernel_rfl)
  rcases if_inv hF with ⟨h4, hF⟩ | ⟨h4, hF⟩
  refine w_cT (m := .top) h4 (s1 := (⟨[], [], H3⟩ : St)) (by kernel_rfl) (by kernel_rfl) ?_
  refine w_seq ?_
  refine w_reg ⟨[E5], [], H3⟩ (by kernel_rfl) ?_
  refine w_ret ?_
  obtain ⟨e0, e1⟩ := some2_inv hF
  subst e0
  subst e1
  exact fin_imp (v := .one .top (.bool false)) (by kernel_rfl) (by kernel_rfl) (by kernel_rfl)
  refine w_cF (m := .top) h4 (s1 := S71) (by kernel_rfl) (by kernel_rfl) ?_
  refine w_skip ?_
  refine w_seq ?_
  obtain ⟨H7, r5, c6, hF⟩ := bind2_inv hF
  let E6 : Ptr → EN := fun z0 => (7, .one .top (Ptr.av z0))
  let E7 : Ptr → EN := fun z0 => (17, .one .top (Ptr.av z0))
  refine w_regO ⟨[E1, E2, E3, (E6 r5)], [], H7⟩ ?_ ?_
  refine o_one ⟨[E1, E2, E3, (E7 r5)], [], H7⟩ (st_call (d := (some 17)) (fz := false) (pure := false) (own := false) S71 (ok_law19_begun H3 c6) (by generalize r5 = qp0; cases qp0 <;> kernel_rfl) (by generalize r5 = qp0; cases qp0 <;> kernel_rfl)) ?_
  refine o_run 1 ⟨[E1, E2, E3, (E6 r5), (E7 r5)], [], H7⟩ (by kernel_rfl) (by generalize r5 = qp0; cases qp0 <;> kernel_rfl) ?_
  exact o_end (by kernel_rfl) (by kernel_rfl)
  refine w_seq ?_
  obtain ⟨i8, o9, h10, hF⟩ := pbnd_inv hF
  let E8 : EN := (7, .one .top (.obj i8 o9))
  let E9 : EN := (18, .one .top (.obj i8 o9))
  let E10 : EN := (19, .one .top (.obj i8 o9))
  let E11 : EN := (20, .one .top (.obj i8 o9))
  let E13 : EN := (24, .one .top (.obj i8 o9))
  let E14 : EN := (26, .one .top (.obj i8 o9))
  let E15 : EN := (27, .one .top (.obj i8 o9))
  let E16 : EN := (28, .one .top (.obj i8 o9))
  let E19 : EN := (32, .one .top (.obj i8 o9))
  let E29 : EN := (68, .one .top (.obj i8 o9))
  let E38 : EN := (78, .one .top (.obj i8 o9))
  let S72 : St := ⟨[E1, E2, E3, E8, E9, E10, E11], [], H7⟩
  obtain ⟨x11, V12, hF⟩ := bind1_inv hF
  replace V12 := hgetT_inv V12
  obtain ⟨H14, c13, hF⟩ := bind1_inv hF
  let S73 : St := ⟨[E1, E2, E3, E8, E13], [], H14⟩
  refine w_regO ⟨[E1, E2, E3, E8], [], H14⟩ ?_ ?_
  refine o_run 1 ⟨[E1, E2, E3, (E6 r5), (18, .one .top (Ptr.av r5))], [], H7⟩ (by kernel_rfl) (by generalize r5 = qp0; cases qp0 <;> kernel_rfl) ?_
  refine o_eq (congrArg (fun q => (⟨[E1, E2, E3, (7, .one .top (Ptr.av q)), (18, .one .top (Ptr.av q))], [], H7⟩ : St)) h10) ?_
  refine o_run 1 ⟨[E1, E2, E3, E8, E9, E10], [], H7⟩ (by kernel_rfl) (by kernel_rfl) ?_
  refine o_run 1 S72 (by kernel_rfl) (by generalize x11.Code_ = qp0; generalize x11.Proc_.frame_ = qp1; cases qp0 <;> cases qp1 <;> kernel_rfl) ?_
  refine o_one ⟨[E1, E2, E3, E8, E9, E10, E11, (21, .one .top (Ptr.av x11.Code_))], [], H7⟩ (st_ld (X := X) S72 26 V12 0 1 false (.one .top (Ptr.av x11.Code_)) (some 21) (by kernel_rfl) (by kernel_rfl) (by kernel_rfl) (by kernel_rfl) (by kernel_rfl) (by generalize x11.Code_ = qp0; generalize x11.Proc_.frame_ = qp1; cases qp0 <;> cases qp1 <;> kernel_rfl)) ?_
  refine o_run 1 ⟨[E1, E2, E3, E8, E9, E10, E11, (21, .one .top (Ptr.av x11.Code_)), E12], [], H7⟩ (by kernel_rfl) (by generalize x11.Code_ = qp0; generalize x11.Proc_.frame_ = qp1; cases qp0 <;> cases qp1 <;> kernel_rfl) ?_
  refine o_one ⟨[E1, E2, E3, E8, E9, E10, E11, (21, .one .top (Ptr.av x11.Code_)), E12, (23, .tup [])], [], H14⟩ (st_call (d := (some 23)) (fz := false) (pure := false) (own := false) (⟨[E1, E2, E3, E8, E9, E10, E11, (21, .one .top (Ptr.av x11.Code_)), E12], [], H7⟩ : St) (ok_emit_Code_Number H7 c13) (by generalize x11.Code_ = qp0; generalize x11.Proc_.frame_ = qp1; cases qp0 <;> cases qp1 <;> kernel_rfl) (by generalize x11.Code_ = qp0; generalize x11.Proc_.frame_ = qp1; cases qp0 <;> cases qp1 <;> kernel_rfl)) ?_
  exact o_end (by kernel_rfl) (by kernel_rfl)
  refine w_seq ?_
  obtain ⟨H16, c15, hF⟩ := bind1_inv hF
  let S74 : St := ⟨[E1, E2, E3, E8, E14, E15, E16], [], H16⟩
  refine w_regO ⟨[E1, E2, E3, E8], [], H16⟩ ?_ ?_
  refine o_run 1 S73 (by kernel_rfl) (by kernel_rfl) ?_
  refine o_one ⟨[E1, E2, E3, E8, E13, (25, .tup [])], [], H16⟩ (st_call (d := (some 25)) (fz := false) (pure := false) (own := false) S73 (ok_item_Gen_Wait H14 c15) (by kernel_rfl) (by kernel_rfl)) ?_
  exact o_end (by kernel_rfl) (by kernel_rfl)
  refine w_seq ?_
  obtain ⟨x17, V18, hF⟩ := bind1_inv hF
  replace V18 := hgetT_inv V18
  obtain ⟨H20, c19, hF⟩ := bind1_inv hF
  let S75 : St := ⟨[E1, E2, E3, E8, E19, E20], [], H20⟩
  refine w_regO ⟨[E1, E2, E3, E8], [], H20⟩ ?_ ?_
  refine o_run 2 ⟨[E1, E2, E3, E8, E14, E15], [], H16⟩ (by kernel_rfl) (by kernel_rfl) ?_
  refine o_run 1 S74 (by kernel_rfl) (by generalize x17.Code_ = qp0; generalize x17.Proc_.frame_ = qp1; cases qp0 <;> cases qp1 <;> kernel_rfl) ?_
  refine o_one ⟨[E1, E2, E3, E8, E14, E15, E16, (29, .one .top (Ptr.av x17.Code_))], [], H16⟩ (st_ld (X := X) S74 26 V18 0 1 false (.one .top (Ptr.av x17.Code_)) (some 29) (by kernel_rfl) (by kernel_rfl) (by kernel_rfl) (by kernel_rfl) (by kernel_rfl) (by generalize x17.Code_ = qp0; generalize x17.Proc_.frame_ = qp1; cases qp0 <;> cases qp1 <;> kernel_rfl)) ?_
  refine o_run 1 ⟨[E1, E2, E3, E8, E14, E15, E16, (29, .one .top (Ptr.av x17.Code_)), E17], [], H16⟩ (by kernel_rfl) (by generalize x17.Code_ = qp0; generalize x17.Proc_.frame_ = qp1; cases qp0 <;> cases qp1 <;> kernel_rfl) ?_
  refine o_one ⟨[E1, E2, E3, E8, E14, E15, E16, (29, .one .top (Ptr.av x17.Code_)), E17, (31, .tup [])], [], H20⟩ (st_call (d := (some 31)) (fz := false) (pure := false) (own := false) (⟨[E1, E2, E3, E8, E14, E15, E16, (29, .one .top (Ptr.av x17.Code_)), E17], [], H16⟩ : St) (ok_emit_Code_Number H16 c19) (by generalize x17.Code_ = qp0; generalize x17.Proc_.frame_ = qp1; cases qp0 <;> cases qp1 <;> kernel_rfl) (by generalize x17.Code_ = qp0; generalize x17.Proc_.frame_ = qp1; cases qp0 <;> cases qp1 <;> kernel_rfl)) ?_
  exact o_end (by kernel_rfl) (by kernel_rfl)
  refine w_seq ?_
  obtain ⟨H23, r21, c22, hF⟩ := bind2_inv hF
  let E18 : EN := (8, .one .top (.int .i64 r21))
  let E21 : EN := (34, .one .top (.int .i64 r21))
  let E34 : EN := (74, .one .top (.int .i64 r21))
  let S76 : St := ⟨[E1, E2, E3, E8, E18, E22], [], H23⟩
  let S77 : St := ⟨[E1, E2, E3, E8, E18, E22, E23], [], H23⟩
  let S78 : St := ⟨[E1, E2, E3, E8, E18, E22, E23, E24], [], H23⟩
  let S83 : St := ⟨[E1, E2, E3, E8, E18, E22, E51, E52, E53], [], H23⟩
  let S84 : St := ⟨[E1, E2, E3, E8, E18, E22, E58, E59, E60], [], H23⟩
  let S86 : St := ⟨[E1, E2, E3, E8, E18, E22, E23, E67], [], H23⟩
  let S87 : St := ⟨[E1, E2, E3, E8, E18, E22, E23, E68], [], H23⟩
  let S88 : St := ⟨[E1, E2, E3, E8, E18, E22, E23, E69], [], H23⟩
  refine w_regO ⟨[E1, E2, E3, E8, E18], [], H23⟩ ?_ ?_
  refine o_run 2 S75 (by kernel_rfl) (by kernel_rfl) ?_
  refine o_one ⟨[E1, E2, E3, E8, E19, E20, E21], [], H23⟩ (st_call (d := (some 34)) (fz := false) (pure := false) (own := false) S75 (ok_item_Gen_Two H20 c22) (by kernel_rfl) (by kernel_rfl)) ?_
  refine o_run 1 ⟨[E1, E2, E3, E8, E18, E19, E20, E21], [], H23⟩ (by kernel_rfl) (by kernel_rfl) ?_
  exact o_end (by kernel_rfl) (by kernel_rfl)
  refine w_seq ?_
  refine w_reg S76 (by kernel_rfl) ?_
  refine w_seq ?_
  refine w_seq ?_
  refine w_reg S77 (by kernel_rfl) ?_
  refine w_block ?_
  refine w_seq ?_
  refine w_seq ?_
  refine w_reg S78 (by kernel_rfl) ?_
  refine w_join (α := (Bool)) (fun x => (⟨[E1, E2, E3, E8, E18, E22, E23, (38, .one .top (.bool x))], [], H23⟩ : St)) (fun x => law19_ItemTwo_j1 p0 p1 p2 H23 i8 o9 r21 x = some (Hr, ra)) ?_ ?_
  rintro j24 hF
  replace hF : law19_ItemTwo_j1 p0 p1 p2 H23 i8 o9 r21 j24 = some (Hr, ra) := hF
  unfold law19_ItemTwo_j1 at hF
  refine w_join (α := (Int × Int)) (fun x => (⟨[E8, E18, (9, .one .top (.int .i32 x.1)), (10, .one .top (.int .u32 x.2))], [], H23⟩ : St)) (fun x => law19_ItemTwo_j2 H23 i8 o9 r21 x.1 x.2 = some (Hr, ra)) ?_ ?_
  rintro ⟨j25, j26⟩ hF
  replace hF : law19_ItemTwo_j2 H23 i8 o9 r21 j25 j26 = some (Hr, ra) := hF
  let E25 : EN := (9, .one .top (.int .i32 j25))
  let E26 : EN := (10, .one .top (.int .u32 j26))
  let E43 : EN := (83, .one .top (.int .i32 j25))
  let E44 : EN := (84, .one .top (.int .u32 j26))
  let S79 : St := ⟨[E8, E18, E25, E26, E29], [], H23⟩
  unfold law19_ItemTwo_j2 at hF
  refine w_seq ?_
  obtain ⟨H30, r27, r28, c29, hF⟩ := bind3_inv hF
  let E27 : EN := (13, .one .bl (.sl 1 (List.map (eI .u32) r27)))
  let E28 : EN := (14, .one .top (.bool r28))
  let E30 : EN := (69, .tup [.one (.own 1) (.sl 1 (List.map (eI .u32) r27)), .one .top (.bool r28)])
  let E39 : EN := (79, .one .bl (.sl 1 (List.map (eI .u32) r27)))
  let E41 : EN := (81, .one .bl (.sl 1 (List.map (eI .u32) r27)))
  let E42 : EN := (82, .one .top (.int .i64 (r27.length : Int)))
  let S80 : St := ⟨[E8, E18, E25, E26, E27, E31, E32, E33, E34, E35, E36, E37, E38, E39], [], H30⟩
  refine w_regO ⟨[E8, E18, E25, E26, E27, E28], [], H30⟩ ?_ ?_
  refine o_run 1 S79 (by kernel_rfl) (by kernel_rfl) ?_
  refine o_one ⟨[E8, E18, E25, E26, E29, E30], [], H30⟩ (st_call (d := (some 69)) (fz := false) (pure := false) (own := false) S79 (ok_law19_ended H23 c29) (by kernel_rfl) (by kernel_rfl)) ?_
  refine o_run 5 ⟨[E8, E18, E25, E26, E27, E28, (67, .tup [.one .bl (.sl 1 (List.map (eI .u32) r27)), .one .top (.bool r28)]), E29, E30, (70, .one .bl (.sl 1 (List.map (eI .u32) r27))), (71, .one .top (.bool r28))], [], H30⟩ (by kernel_rfl) (by kernel_rfl) ?_
  exact o_end (by kernel_rfl) (by kernel_rfl)
  refine w_seq ?_
  obtain ⟨w37, hB38, hF⟩ := bind1_inv hF
  refine w_regO ⟨[(6, .one .top (.bool w37))], [], H30⟩ ?_ ?_
  refine o_run 2 ⟨[E8, E18, E25, E26, E27, E28, (72, .one .top (.bool r28)), (73, .one .top (.bool r28))], [], H30⟩ (by kernel_rfl) (by kernel_rfl) ?_
  rcases if_inv hB38 with ⟨h31, hB38⟩ | ⟨h31, hB38⟩
  refine o_eq (congrArg (fun q => (⟨[E8, E18, E25, E26, E27, (14, .one .top (.bool q)), (72, .one .top (.bool q)), (73, .one .top (.bool q))], [], H30⟩ : St)) h31) ?_
  refine o_run 4 ⟨[E8, E18, E25, E26, E27, E31, E32, E33, E34, (75, .one .top (.bool (r21 == 0))), (76, .one .top (.bool (r21 == 0))), (77, .one .top (.bool (r21 == 0)))], [], H30⟩ (by kernel_rfl) (by kernel_rfl) ?_
  rcases if_inv hB38 with ⟨h32, hB38⟩ | ⟨h32, hB38⟩
  refine o_eq (congrArg (fun q => (⟨[E8, E18, E25, E26, E27, E31, E32, E33, E34, (75, .one .top (.bool q)), (76, .one .top (.bool q)), (77, .one .top (.bool q))], [], H30⟩ : St)) h32) ?_
  refine o_run 2 S80 (by kernel_rfl) (by kernel_rfl) ?_
  obtain ⟨r33, c34, hB38⟩ := bind1_inv hB38
  let E40 : EN := (80, .agg (m1_ref04_Cpu r33))
  let S81 : St := ⟨[E8, E18, E25, E26, E27, E31, E32, E33, E34, E35, E36, E37, E38, E39, E40, E41], [], H30⟩
  let S82 : St := ⟨[E8, E18, E25, E26, E27, E31, E32, E33, E34, E35, E36, E37, E38, E39, E40, E41, E42, E43, E44], [], H30⟩
  refine o_one ⟨[E8, E18, E25, E26, E27, E31, E32, E33, E34, E35, E36, E37, E38, E39, E40], [], H30⟩ (st_call (d := (some 80)) (fz := false) (pure := true) (own := false) S80 (ok_law19_run H30 c34) (by kernel_rfl) (by kernel_rfl)) ?_
  refine o_run 1 S81 (by kernel_rfl) (by kernel_rfl) ?_
  refine o_one ⟨[E8, E18, E25, E26, E27, E31, E32, E33, E34, E35, E36, E37, E38, E39, E40, E41, E42], [], H30⟩ (st_len S81 r27 (eI .u32) (some 82) (by kernel_rfl) (by kernel_rfl)) ?_
  refine o_run 2 S82 (by kernel_rfl) (by kernel_rfl) ?_
  obtain ⟨r35, c36, hB38⟩ := bind1_inv hB38
  let E45 : EN := (85, .one .top (.bool r35))
  refine o_one ⟨[E8, E18, E25, E26, E27, E31, E32, E33, E34, E35, E36, E37, E38, E39, E40, E41, E42, E43, E44, E45], [], H30⟩ (st_call (d := (some 85)) (fz := false) (pure := true) (own := false) S82 (ok_law19_stopped H30 c36) (by kernel_rfl) (by kernel_rfl)) ?_
  refine o_run 2 ⟨[(6, .one .top (.bool r35)), E8, E18, E25, E26, E27, E31, E32, E33, E34, E35, E36, E37, E38, E39, E40, E41, E42, E43, E44, E45, (86, .one .top (.bool r35))], [], H30⟩ (by kernel_rfl) (by kernel_rfl) ?_
  cases hB38
  exact o_end (by kernel_rfl) (by kernel_rfl)
  refine o_eq (congrArg (fun q => (⟨[E8, E18, E25, E26, E27, E31, E32, E33, E34, (75, .one .top (.bool q)), (76, .one .top (.bool q)), (77, .one .top (.bool q))], [], H30⟩ : St)) h32) ?_
  refine o_run 10 ⟨[E5, E8, E18, E25, E26, E27, E31, E32, E33, E34, (75, .one .top (.bool false)), E46, E47, (78, .tup []), (79, .tup []), (80, .tup []), (81, .tup []), (82, .tup []), (83, .tup []), (84, .tup []), (85, .tup []), E48], [], H30⟩ (by kernel_rfl) (by kernel_rfl) ?_
  cases hB38
  exact o_end (by kernel_rfl) (by kernel_rfl)
  refine o_eq (congrArg (fun q => (⟨[E8, E18, E25, E26, E27, (14, .one .top (.bool q)), (72, .one .top (.bool q)), (73, .one .top (.bool q))], [], H30⟩ : St)) h31) ?_
  refine o_run 14 ⟨[E5, E8, E18, E25, E26, E27, (14, .one .top (.bool false)), (72, .one .top (.bool false)), (73, .one .top (.bool false)), (74, .tup []), (75, .tup []), E46, E47, (78, .tup []), (79, .tup []), (80, .tup []), (81, .tup []), (82, .tup []), (83, .tup []), (84, .tup []), (85, .tup []), E48], [], H30⟩ (by kernel_rfl) (by kernel_rfl) ?_
  cases hB38
  exact o_end (by kernel_rfl) (by kernel_rfl)
  refine w_ret ?_
  obtain ⟨e0, e1⟩ := some2_inv hF
  subst e0
  subst e1
  exact fin_imp (v := .one .top (.bool w37)) (by kernel_rfl) (by kernel_rfl) (by kernel_rfl)
  rcases if_inv hF with ⟨h39, hF⟩ | ⟨h39, hF⟩
  refine w_cT (m := .top) h39 (s1 := S76) (by kernel_rfl) (by kernel_rfl) ?_
  refine w_seq ?_
  obtain ⟨r40, r41, c42, hF⟩ := bind2_inv hF
  let E49 : EN := (11, .one .top (.int .i32 r40))
  let E50 : EN := (12, .one .top (.bool r41))
  let E54 : EN := (48, .tup [.one .top (.int .i32 r40), .one .top (.bool r41)])
  let E55 : EN := (9, .one .top (.int .i32 r40))
  refine w_regO ⟨[E8, E18, E22, E49, E50], [], H23⟩ ?_ ?_
  refine o_run 3 S83 (by kernel_rfl) (by kernel_rfl) ?_
  refine o_one ⟨[E1, E2, E3, E8, E18, E22, E51, E52, E53, E54], [], H23⟩ (st_call (d := (some 48)) (fz := false) (pure := true) (own := false) S83 (ok_ref10_Reckon H23 c42) (by kernel_rfl) (by kernel_rfl)) ?_
  refine o_run 5 ⟨[E1, E2, E3, E8, E18, E22, E49, E50, (44, .tup [.one .top (.int .i32 r40), .one .top (.bool r41)]), E51, E52, E53, E54, (49, .one .top (.int .i32 r40)), (50, .one .top (.bool r41))], [], H23⟩ (by kernel_rfl) (by kernel_rfl) ?_
  exact o_end (by kernel_rfl) (by kernel_rfl)
  refine w_seq ?_
  refine w_reg ⟨[E8, E18, E55, E22, E50], [], H23⟩ (by kernel_rfl) ?_
  refine w_seq ?_
  refine w_reg ⟨[E8, E18, E55, E22, (53, .one .top (.bool (!r41)))], [], H23⟩ (by kernel_rfl) ?_
  refine w_join (α := (Int)) (fun x => (⟨[E8, E18, E55, (10, .one .top (.int .u32 x))], [], H23⟩ : St)) (fun x => law19_ItemTwo_j3 H23 i8 o9 r21 r40 x = some (Hr, ra)) ?_ ?_
  rintro j43 hF
  replace hF : law19_ItemTwo_j3 H23 i8 o9 r21 r40 j43 = some (Hr, ra) := hF
  unfold law19_ItemTwo_j3 at hF
  exact ⟨(r40, j43), hF, (by kernel_rfl)⟩
  rcases if_inv hF with ⟨h44, hF⟩ | ⟨h44, hF⟩
  refine w_cT (m := .top) h44 (s1 := (⟨[E8, E18, E55], [], H23⟩ : St)) (by kernel_rfl) (by kernel_rfl) ?_
  refine w_reg ⟨[E8, E18, E55, (10, .one .top (.int .u32 3))], [], H23⟩ (by kernel_rfl) ?_
  exact ⟨3, hF, (by kernel_rfl)⟩
  refine w_cF (m := .top) h44 (s1 := (⟨[E8, E18, E55, E22], [], H23⟩ : St)) (by kernel_rfl) (by kernel_rfl) ?_
  refine w_skip ?_
  exact ⟨0, hF, (by kernel_rfl)⟩
  refine w_cF (m := .top) h39 (s1 := S77) (by kernel_rfl) (by kernel_rfl) ?_
  refine w_seq ?_
  refine w_seq ?_
  refine w_reg ⟨[E1, E2, E3, E8, E18, E22, E23, E56], [], H23⟩ (by kernel_rfl) ?_
  refine w_join (α := (Bool)) (fun x => (⟨[E1, E2, E3, E8, E18, E22, (54, .one .top (.bool x))], [], H23⟩ : St)) (fun x => law19_ItemTwo_j4 p0 p1 p2 H23 i8 o9 r21 x = some (Hr, ra)) ?_ ?_
  rintro j45 hF
  replace hF : law19_ItemTwo_j4 p0 p1 p2 H23 i8 o9 r21 j45 = some (Hr, ra) := hF
  unfold law19_ItemTwo_j4 at hF
  rcases if_inv hF with ⟨h46, hF⟩ | ⟨h46, hF⟩
  refine w_cT (m := .top) h46 (s1 := S76) (by kernel_rfl) (by kernel_rfl) ?_
  obtain ⟨r47, c48, hF⟩ := bind1_inv hF
  let E61 : EN := (64, .one .top (.bool r47))
  let S85 : St := ⟨[E1, E2, E3, E8, E18, E22, E58, E59, E60, E61], [], H23⟩
  obtain ⟨r49, c50, hF⟩ := bind1_inv hF
  let E57 : EN := (9, .one .top (.int .i32 r49.N_))
  let E62 : EN := (65, .agg [(.top, .int .i64 r49.Type_), (.top, .int .i32 r49.N_)])
  refine w_regO ⟨[E8, E18, E57, E22], [], H23⟩ ?_ ?_
  refine o_run 3 S84 (by kernel_rfl) (by kernel_rfl) ?_
  refine o_one S85 (st_call (d := (some 64)) (fz := false) (pure := true) (own := false) S84 (ok_ref10_Compare H23 c48) (by kernel_rfl) (by kernel_rfl)) ?_
  refine o_one ⟨[E1, E2, E3, E8, E18, E22, E58, E59, E60, E61, E62], [], H23⟩ (st_call (d := (some 65)) (fz := false) (pure := true) (own := false) S85 (ok_ref10_Truth H23 c50) (by kernel_rfl) (by kernel_rfl)) ?_
  refine o_run 2 ⟨[E1, E2, E3, E8, E18, E57, E22, E58, E59, E60, E61, E62, (66, .one .top (.int .i32 r49.N_))], [], H23⟩ (by kernel_rfl) (by kernel_rfl) ?_
  exact o_end (by kernel_rfl) (by kernel_rfl)
  exact ⟨(r49.N_, 0), hF, (by kernel_rfl)⟩
  refine w_cF (m := .top) h46 (s1 := (⟨[E18], [], H23⟩ : St)) (by kernel_rfl) (by kernel_rfl) ?_
  refine w_seq ?_
  refine w_reg ⟨[(6, .one .top (.bool (r21 == 110)))], [], H23⟩ (by kernel_rfl) ?_
  refine w_ret ?_
  obtain ⟨e0, e1⟩ := some2_inv hF
  subst e0
  subst e1
  exact fin_imp (v := .one .top (.bool (r21 == 110))) (by kernel_rfl) (by kernel_rfl) (by kernel_rfl)
  rcases if_inv hF with ⟨h51, hF⟩ | ⟨h51, hF⟩
  refine w_cT (m := .top) h51 (s1 := (⟨[E1, E2, E3, E8, E18, E22, E56], [], H23⟩ : St)) (by kernel_rfl) (by kernel_rfl) ?_
  refine w_skip ?_
  exact ⟨(strEq p0 (ByteArray.mk #[61])), hF, (by kernel_rfl)⟩
  refine w_cF (m := .top) h51 (s1 := S77) (by kernel_rfl) (by kernel_rfl) ?_
  refine w_seq ?_
  refine w_reg ⟨[E1, E2, E3, E8, E18, E22, E23, E63], [], H23⟩ (by kernel_rfl) ?_
  refine w_join (α := (Bool)) (fun x => (⟨[E1, E2, E3, E8, E18, E22, (54, .one .top (.bool x))], [], H23⟩ : St)) (fun x => law19_ItemTwo_j5 p0 p1 p2 H23 i8 o9 r21 x = some (Hr, ra)) ?_ ?_
  rintro j52 hF
  replace hF : law19_ItemTwo_j5 p0 p1 p2 H23 i8 o9 r21 j52 = some (Hr, ra) := hF
  unfold law19_ItemTwo_j5 at hF
  exact ⟨j52, hF, (by kernel_rfl)⟩
  rcases if_inv hF with ⟨h53, hF⟩ | ⟨h53, hF⟩
  refine w_cT (m := .top) h53 (s1 := (⟨[E1, E2, E3, E8, E18, E22, E63], [], H23⟩ : St)) (by kernel_rfl) (by kernel_rfl) ?_
  refine w_skip ?_
  exact ⟨(strEq p0 (ByteArray.mk #[35])), hF, (by kernel_rfl)⟩
  refine w_cF (m := .top) h53 (s1 := S77) (by kernel_rfl) (by kernel_rfl) ?_
  refine w_seq ?_
  refine w_reg ⟨[E1, E2, E3, E8, E18, E22, E23, E64], [], H23⟩ (by kernel_rfl) ?_
  refine w_join (α := (Bool)) (fun x => (⟨[E1, E2, E3, E8, E18, E22, (54, .one .top (.bool x))], [], H23⟩ : St)) (fun x => law19_ItemTwo_j6 p0 p1 p2 H23 i8 o9 r21 x = some (Hr, ra)) ?_ ?_
  rintro j54 hF
  replace hF : law19_ItemTwo_j6 p0 p1 p2 H23 i8 o9 r21 j54 = some (Hr, ra) := hF
  unfold law19_ItemTwo_j6 at hF
  exact ⟨j54, hF, (by kernel_rfl)⟩
  rcases if_inv hF with ⟨h55, hF⟩ | ⟨h55, hF⟩
  refine w_cT (m := .top) h55 (s1 := (⟨[E1, E2, E3, E8, E18, E22, E64], [], H23⟩ : St)) (by kernel_rfl) (by kernel_rfl) ?_
  refine w_skip ?_
  exact ⟨(strEq p0 (ByteArray.mk #[60])), hF, (by kernel_rfl)⟩
  refine w_cF (m := .top) h55 (s1 := S77) (by kernel_rfl) (by kernel_rfl) ?_
  refine w_seq ?_
  refine w_reg ⟨[E1, E2, E3, E8, E18, E22, E23, E65], [], H23⟩ (by kernel_rfl) ?_
  refine w_join (α := (Bool)) (fun x => (⟨[E1, E2, E3, E8, E18, E22, (54, .one .top (.bool x))], [], H23⟩ : St)) (fun x => law19_ItemTwo_j7 p0 p1 p2 H23 i8 o9 r21 x = some (Hr, ra)) ?_ ?_
  rintro j56 hF
  replace hF : law19_ItemTwo_j7 p0 p1 p2 H23 i8 o9 r21 j56 = some (Hr, ra) := hF
  unfold law19_ItemTwo_j7 at hF
  exact ⟨j56, hF, (by kernel_rfl)⟩
  rcases if_inv hF with ⟨h57, hF⟩ | ⟨h57, hF⟩
  refine w_cT (m := .top) h57 (s1 := (⟨[E1, E2, E3, E8, E18, E22, E65], [], H23⟩ : St)) (by kernel_rfl) (by kernel_rfl) ?_
  refine w_skip ?_
  exact ⟨(strEq p0 (ByteArray.mk #[60, 61])), hF, (by kernel_rfl)⟩
  refine w_cF (m := .top) h57 (s1 := S77) (by kernel_rfl) (by kernel_rfl) ?_
  refine w_seq ?_
  refine w_reg ⟨[E1, E2, E3, E8, E18, E22, E23, E66], [], H23⟩ (by kernel_rfl) ?_
  refine w_join (α := (Bool)) (fun x => (⟨[E1, E2, E3, E8, E18, E22, (54, .one .top (.bool x))], [], H23⟩ : St)) (fun x => law19_ItemTwo_j8 p0 p1 p2 H23 i8 o9 r21 x = some (Hr, ra)) ?_ ?_
  rintro j58 hF
  replace hF : law19_ItemTwo_j8 p0 p1 p2 H23 i8 o9 r21 j58 = some (Hr, ra) := hF
  unfold law19_ItemTwo_j8 at hF
  exact ⟨j58, hF, (by kernel_rfl)⟩
  rcases if_inv hF with ⟨h59, hF⟩ | ⟨h59, hF⟩
  refine w_cT (m := .top) h59 (s1 := (⟨[E1, E2, E3, E8, E18, E22, E66], [], H23⟩ : St)) (by kernel_rfl) (by kernel_rfl) ?_
  refine w_skip ?_
  exact ⟨(strEq p0 (ByteArray.mk #[62])), hF, (by kernel_rfl)⟩
  refine w_cF (m := .top) h59 (s1 := S77) (by kernel_rfl) (by kernel_rfl) ?_
  refine w_reg ⟨[E1, E2, E3, E8, E18, E22, (54, .one .top (.bool (strEq p0 (ByteArray.mk #[62, 61]))))], [], H23⟩ (by kernel_rfl) ?_
  exact ⟨(strEq p0 (ByteArray.mk #[62, 61])), hF, (by kernel_rfl)⟩
  rcases if_inv hF with ⟨h60, hF⟩ | ⟨h60, hF⟩
  refine w_cT (m := .top) h60 (s1 := S78) (by kernel_rfl) (by kernel_rfl) ?_
  refine w_skip ?_
  exact ⟨(strEq p0 (ByteArray.mk #[43])), hF, (by kernel_rfl)⟩
  refine w_cF (m := .top) h60 (s1 := S77) (by kernel_rfl) (by kernel_rfl) ?_
  refine w_seq ?_
  refine w_reg S86 (by kernel_rfl) ?_
  refine w_join (α := (Bool)) (fun x => (⟨[E1, E2, E3, E8, E18, E22, E23, (38, .one .top (.bool x))], [], H23⟩ : St)) (fun x => law19_ItemTwo_j9 p0 p1 p2 H23 i8 o9 r21 x = some (Hr, ra)) ?_ ?_
  rintro j61 hF
  replace hF : law19_ItemTwo_j9 p0 p1 p2 H23 i8 o9 r21 j61 = some (Hr, ra) := hF
  unfold law19_ItemTwo_j9 at hF
  exact ⟨j61, hF, (by kernel_rfl)⟩
  rcases if_inv hF with ⟨h62, hF⟩ | ⟨h62, hF⟩
  refine w_cT (m := .top) h62 (s1 := S86) (by kernel_rfl) (by kernel_rfl) ?_
  refine w_skip ?_
  exact ⟨(strEq p0 (ByteArray.mk #[45])), hF, (by kernel_rfl)⟩
  refine w_cF (m := .top) h62 (s1 := S77) (by kernel_rfl) (by kernel_rfl) ?_
  refine w_seq ?_
  refine w_reg S87 (by kernel_rfl) ?_
  refine w_join (α := (Bool)) (fun x => (⟨[E1, E2, E3, E8, E18, E22, E23, (38, .one .top (.bool x))], [], H23⟩ : St)) (fun x => law19_ItemTwo_j10 p0 p1 p2 H23 i8 o9 r21 x = some (Hr, ra)) ?_ ?_
  rintro j63 hF
  replace hF : law19_ItemTwo_j10 p0 p1 p2 H23 i8 o9 r21 j63 = some (Hr, ra) := hF
  unfold law19_ItemTwo_j10 at hF
  exact ⟨j63, hF, (by kernel_rfl)⟩
  rcases if_inv hF with ⟨h64, hF⟩ | ⟨h64, hF⟩
  refine w_cT (m := .top) h64 (s1 := S87) (by kernel_rfl) (by kernel_rfl) ?_
  refine w_skip ?_
  exact ⟨(strEq p0 (ByteArray.mk #[42])), hF, (by kernel_rfl)⟩
  refine w_cF (m := .top) h64 (s1 := S77) (by kernel_rfl) (by kernel_rfl) ?_
  refine w_seq ?_
  refine w_reg S88 (by kernel_rfl) ?_
  refine w_join (α := (Bool)) (fun x => (⟨[E1, E2, E3, E8, E18, E22, E23, (38, .one .top (.bool x))], [], H23⟩ : St)) (fun x => law19_ItemTwo_j11 p0 p1 p2 H23 i8 o9 r21 x = some (Hr, ra)) ?_ ?_
  rintro j65 hF
  replace hF : law19_ItemTwo_j11 p0 p1 p2 H23 i8 o9 r21 j65 = some (Hr, ra) := hF
  unfold law19_ItemTwo_j11 at hF
  exact ⟨j65, hF, (by kernel_rfl)⟩
  rcases if_inv hF with ⟨h66, hF⟩ | ⟨h66, hF⟩
  refine w_cT (m := .top) h66 (s1 := S88) (by kernel_rfl) (by kernel_rfl) ?_
  refine w_skip ?_
  exact ⟨(strEq p0 (ByteArray.mk #[68, 73, 86])), hF, (by kernel_rfl)⟩
  refine w_cF (m := .top) h66 (s1 := S77) (by kernel_rfl) (by kernel_rfl) ?_
  refine w_reg ⟨[E1, E2, E3, E8, E18, E22, E23, (38, .one .top (.bool (strEq p0 (ByteArray.mk #[77, 79, 68]))))], [], H23⟩ (by kernel_rfl) ?_
  exact ⟨(strEq p0 (ByteArray.mk #[77, 79, 68])), hF, (by kernel_rfl)⟩
end Go.Proofs.Abs
