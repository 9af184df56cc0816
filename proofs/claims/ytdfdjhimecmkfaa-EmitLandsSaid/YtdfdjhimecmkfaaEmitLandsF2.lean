/- The law EmitLands: whatever the input, it answers true. No conditions. (Part EmitLandsF2 of its proof.) -/
import Derived.Test.YtdfdjhimecmkfaaEmitLandsF1
set_option linter.unusedVariables false
set_option linter.unusedSimpArgs false
set_option linter.unusedSectionVars false
/- Printed by gen (walk.py). -/
namespace Go.Proofs.Abs
open Go Go.Proofs
set_option linter.unusedVariables false
set_option maxRecDepth 100000
set_option maxHeartbeats 0
noncomputable def law17_EmitLands_L1 (p0 : Int) (r5 : Ptr) (a8 : Int) (H9 : Heap) : Option ((Int × Heap) ⊕ ((Heap))) :=
  if (decide (a8 < (IntKind.wrap .i64 p0))) = true then (bind2 (emit_Code_Reg H9 r5 1 0) fun H13 r11 =>
  some (Sum.inl ((IntKind.wrap .i64 (a8 + 1)), H13)))
  else (some (Sum.inr H9))
noncomputable def law17_EmitLands_L2 (p1 : Int) (r5 : Ptr) (a20 : Int) (H21 : Heap) : Option ((Int × Heap) ⊕ ((Heap))) :=
  if (decide (a20 < (IntKind.wrap .i64 p1))) = true then (bind1 (emit_Code_Number H21 r5 1 70000) fun H24 =>
  some (Sum.inl ((IntKind.wrap .i64 (a20 + 1)), H24)))
  else (some (Sum.inr H21))
noncomputable def law17_EmitLands (H : Heap) (p0 : Int) (p1 : Int) : Option (Heap × Bool) :=
  bind2 (law17_awake H) fun H3 r1 =>
  if (!r1) = true then (some (H3, false))
  else (bind2 (emit_New H3) fun H7 r5 =>
  bind1 (loopO (fun (x : (Int × Heap)) => law17_EmitLands_L1 p0 r5 x.1 x.2) (0, H7)) (fun H16 =>
  bind2 (emit_Code_Jump H16 r5 20 3) fun H19 r17 =>
  bind1 (loopO (fun (x : (Int × Heap)) => law17_EmitLands_L2 p1 r5 x.1 x.2) (0, H19)) (fun H27 =>
  bind1 (emit_Code_Land H27 r5 r17) fun H29 =>
  bind1 (emit_Code_Here H29 r5) fun r30 =>
  bind1 (emit_Code_Back H29 r5 21 3 r17) fun H33 =>
  bind3 (emit_Code_Finish H33 r5) fun H37 r34 r35 =>
  if ((r35 != 0) || ((r17 != (IntKind.wrap .i64 p0)) || ((r34.Words_.length : Int) != (IntKind.wrap .i64 (r30 + 1))))) = true then (some (H37, false))
  else (bind1 (gi r34.Words_ r17) fun x41 =>
  bind2 (ref02_Decode x41) fun r43 r44 =>
  bind1 (gi r34.Words_ r30) fun x46 =>
  bind2 (ref02_Decode x46) fun r48 r49 =>
  some (H37, ((r44 == 0) && ((r49 == 0) && ((r43.Op_ == 20) && (((IntKind.wrap .i64 ((IntKind.wrap .i64 (r17 + 1)) + r43.Imm_)) == r30) && ((r48.Op_ == 21) && ((IntKind.wrap .i64 ((IntKind.wrap .i64 (r30 + 1)) + r48.Imm_)) == r17)))))))))))
theorem ok_law17_EmitLands (H : Heap) {p0 : Int} {p1 : Int} {ra : Bool} {Hr : Heap} (hF : law17_EmitLands H p0 p1 = some (Hr, ra)) : evS X 11 [.one .top (.int .u8 p0), .one .top (.int .u8 p1)] H = some (.one .top (.bool ra), Hr) := by
  let E1 : Nat × TV := (0, .one .top (.int .u8 p0))
  let E2 : Nat × TV := (1, .one .top (.int .u8 p1))
  let E3 : Nat × TV := (4, .one .top (.bool false))
  let E17 : Nat × TV := (10, .one .top (.loc 10 0))
  let E23 : Nat × TV := (51, .one .top (.bool false))
  let E24 : Nat × TV := (52, .one .top (.bool false))
  let E26 : Nat × TV := (54, .one .top (.int .u8 p0))
  let E27 : Nat × TV := (55, .one .top (.int .i64 (IntKind.wrap .i64 p0)))
  let E28 : Nat × TV := (56, .one .top (.bool false))
  let E29 : Nat × TV := (57, .one .top (.bool false))
  let E30 : Nat × TV := (58, .one .top (.bool false))
  let E31 : Nat × TV := (59, .one .top (.loc 10 0))
  let E34 : Nat × TV := (12, .one .top (.loc 12 0))
  let E37 : Nat × TV := (67, .one .top (.loc 10 0))
  let E43 : Nat × TV := (14, .one .top (.loc 14 0))
  let E46 : Nat × TV := (76, .one .top (.loc 10 0))
  let E53 : Nat × TV := (85, .one .top (.bool true))
  let E54 : Nat × TV := (86, .one .top (.bool true))
  let E56 : Nat × TV := (88, .one .top (.bool true))
  let E57 : Nat × TV := (89, .one .top (.bool true))
  let E58 : Nat × TV := (90, .one .top (.bool true))
  let E59 : Nat × TV := (91, .one .top (.loc 12 0))
  let E61 : Nat × TV := (93, .one .top (.bool true))
  let E62 : Nat × TV := (94, .one .top (.bool true))
  let E63 : Nat × TV := (95, .one .top (.bool true))
  let E66 : Nat × TV := (98, .one .top (.loc 12 4))
  let E70 : Nat × TV := (102, .one .top (.bool true))
  let E71 : Nat × TV := (103, .one .top (.bool true))
  let E72 : Nat × TV := (104, .one .top (.bool true))
  let E73 : Nat × TV := (105, .one .top (.loc 14 0))
  let E75 : Nat × TV := (108, .one .top (.bool false))
  let E76 : Nat × TV := (109, .one .top (.bool false))
  let E77 : Nat × TV := (110, .tup [])
  let E78 : Nat × TV := (111, .tup [])
  let E79 : Nat × TV := (112, .tup [])
  let E80 : Nat × TV := (113, .tup [])
  let E81 : Nat × TV := (114, .tup [])
  let E82 : Nat × TV := (115, .tup [])
  let E83 : Nat × TV := (116, .tup [])
  let E84 : Nat × TV := (117, .one .top (.bool false))
  let E85 : Nat × TV := (103, .one .top (.bool false))
  let E86 : Nat × TV := (104, .one .top (.bool false))
  let E87 : Nat × TV := (105, .tup [])
  let E88 : Nat × TV := (106, .tup [])
  let E89 : Nat × TV := (107, .tup [])
  let E90 : Nat × TV := (94, .one .top (.bool false))
  let E91 : Nat × TV := (95, .one .top (.bool false))
  let S92 : St := ⟨[E1, E2], [], H⟩
  refine w_fun Try.func11 rfl (by kernel_rfl) false (by kernel_rfl) (s0 := S92) (by kernel_rfl) ?_
  unfold law17_EmitLands at hF
  refine w_seq ?_
  refine w_reg S92 (by kernel_rfl) ?_
  refine w_seq ?_
  refine w_seq ?_
  obtain ⟨H3, r1, c2, hF⟩ := bind2_inv hF
  refine w_regO ⟨[E1, E2, (17, .one .top (.bool (!r1)))], [], H3⟩ ?_ ?_
  refine o_one ⟨[E1, E2, (16, .one .top (.bool r1))], [], H3⟩ (st_call (d := (some 16)) (fz := false) (pure := false) (own := false) S92 (ok_law17_awake H c2) (by kernel_rfl) (by kernel_rfl)) ?_
  refine o_run 1 ⟨[E1, E2, (16, .one .top (.bool r1)), (17, .one .top (.bool (!r1)))], [], H3⟩ (by kernel_rfl) (by kernel_rfl) ?_
  exact o_end (by kernel_rfl) (by kernel_rfl)
  rcases if_inv hF with ⟨h4, hF⟩ | ⟨h4, hF⟩
  refine w_cT (m := .top) h4 (s1 := (⟨[], [], H3⟩ : St)) (by kernel_rfl) (by kernel_rfl) ?_
  refine w_seq ?_
  refine w_reg ⟨[E3], [], H3⟩ (by kernel_rfl) ?_
  refine w_ret ?_
  obtain ⟨e0, e1⟩ := some2_inv hF
  subst e0
  subst e1
  exact fin_imp (v := .one .top (.bool false)) (by kernel_rfl) (by kernel_rfl) (by kernel_rfl)
  refine w_cF (m := .top) h4 (s1 := (⟨[E1, E2], [], H3⟩ : St)) (by kernel_rfl) (by kernel_rfl) ?_
  refine w_skip ?_
  refine w_seq ?_
  obtain ⟨H7, r5, c6, hF⟩ := bind2_inv hF
  let E4 : Ptr → Nat × TV := fun z0 => (5, .one .top (Ptr.av z0))
  let E6 : Ptr → Nat × TV := fun z0 => (25, .one .top (Ptr.av z0))
  let E8 : Ptr → Nat × TV := fun z0 => (27, .one .top (Ptr.av z0))
  let E10 : Ptr → Nat × TV := fun z0 => (35, .one .top (Ptr.av z0))
  let E11 : Ptr → Nat × TV := fun z0 => (37, .one .top (Ptr.av z0))
  let E14 : Ptr → Nat × TV := fun z0 => (40, .one .top (Ptr.av z0))
  let E15 : Ptr → Nat × TV := fun z0 => (42, .one .top (Ptr.av z0))
  let E20 : Ptr → Nat × TV := fun z0 => (46, .one .top (Ptr.av z0))
  refine w_regO ⟨[E1, E2, (E4 r5)], [], H7⟩ ?_ ?_
  refine o_one ⟨[E1, E2, (18, .one .top (Ptr.av r5))], [], H7⟩ (st_call (d := (some 18)) (fz := false) (pure := false) (own := false) (⟨[E1, E2], [], H3⟩ : St) (ok_emit_New H3 c6) (by generalize r5 = qp0; cases qp0 <;> kernel_rfl) (by generalize r5 = qp0; cases qp0 <;> kernel_rfl)) ?_
  refine o_run 1 ⟨[E1, E2, (E4 r5), (18, .one .top (Ptr.av r5))], [], H7⟩ (by kernel_rfl) (by generalize r5 = qp0; cases qp0 <;> kernel_rfl) ?_
  exact o_end (by kernel_rfl) (by kernel_rfl)
  refine w_seq ?_
  refine w_seq ?_
  refine w_reg ⟨[E1, E2, (E4 r5), (6, .one .top (.int .i64 0))], [], H7⟩ (by generalize r5 = qp0; cases qp0 <;> kernel_rfl) ?_
  refine w_block ?_
  obtain ⟨r14, hL15, hF⟩ := bind1_inv hF
  refine w_loop (fun (x : (Int × Heap)) => (⟨[E1, E2, (E4 r5), (6, .one .top (.int .i64 x.1))], [], x.2⟩ : St)) (fun (y : (Heap)) => ((.exit 0, (⟨[E1, E2, (E4 r5)], [], y⟩ : St)) : Ex × St)) hL15 (by kernel_rfl) ?_ ?_
  rintro ⟨a8, H9⟩ o hF
  replace hF : law17_EmitLands_L1 p0 r5 a8 H9 = some o := hF
  let E5 : Nat × TV := (6, .one .top (.int .i64 a8))
  let S93 : Ptr → St := fun z0 => ⟨[E1, E2, (E4 z0), E5, (E6 z0)], [], H9⟩
  unfold law17_EmitLands_L1 at hF
  refine w_seq ?_
  refine w_seq ?_
  refine w_reg ⟨[E1, E2, (E4 r5), E5, (22, .one .top (.bool (decide (a8 < (IntKind.wrap .i64 p0)))))], [], H9⟩ (by generalize r5 = qp0; cases qp0 <;> kernel_rfl) ?_
  rcases if_inv hF with ⟨h10, hF⟩ | ⟨h10, hF⟩
  refine w_cT (m := .top) h10 (s1 := (⟨[E1, E2, (E4 r5), E5], [], H9⟩ : St)) (by kernel_rfl) (by kernel_rfl) ?_
  refine w_skip ?_
  refine w_seq ?_
  refine w_block ?_
  obtain ⟨H13, r11, c12, hF⟩ := bind2_inv hF
  refine w_regO ⟨[E1, E2, (E4 r5), E5], [], H13⟩ ?_ ?_
  refine o_run 1 (S93 r5) (by kernel_rfl) (by generalize r5 = qp0; cases qp0 <;> kernel_rfl) ?_
  refine o_one ⟨[E1, E2, (E4 r5), E5, (E6 r5), (26, .one .top (.int .i64 r11))], [], H13⟩ (st_call (d := (some 26)) (fz := false) (pure := false) (own := false) (S93 r5) (ok_emit_Code_Reg H9 c12) (by generalize r5 = qp0; cases qp0 <;> kernel_rfl) (by generalize r5 = qp0; cases qp0 <;> kernel_rfl)) ?_
  exact o_end (by kernel_rfl) (by kernel_rfl)
  refine w_reg ⟨[E1, E2, (E4 r5), (6, .one .top (.int .i64 (IntKind.wrap .i64 (a8 + 1))))], [], H13⟩ (by generalize r5 = qp0; cases qp0 <;> kernel_rfl) ?_
  cases hF
  exact ⟨_, rfl, (by kernel_rfl)⟩
  refine w_cF (m := .top) h10 (s1 := (⟨[E1, E2, (E4 r5)], [], H9⟩ : St)) (by kernel_rfl) (by kernel_rfl) ?_
  refine w_exit ?_
  cases hF
  exact ⟨_, rfl, (by kernel_rfl)⟩
  obtain ⟨H16, hy⟩ : ∃ y, y = r14 := ⟨_, rfl⟩
  subst hy
  let S94 : Ptr → St := fun z0 => ⟨[E1, E2, (E4 z0), (E8 z0)], [], H16⟩
  refine w_oe (i := 0) (s := (⟨[E1, E2, (E4 r5)], [], H16⟩ : St)) (by kernel_rfl) ?_
  refine e_here ?_
  refine w_seq ?_
  obtain ⟨H19, r17, c18, hF⟩ := bind2_inv hF
  let E7 : Nat × TV := (7, .one .top (.int .i64 r17))
  let E12 : Nat × TV := (38, .one .top (.int .i64 r17))
  let E16 : Nat × TV := (43, .one .top (.int .i64 r17))
  let E25 : Nat × TV := (53, .one .top (.int .i64 r17))
  let E39 : Nat × TV := (69, .one .top (.int .i64 r17))
  let E64 : Nat × TV := (96, .one .top (.int .i64 r17))
  let E65 : Nat × TV := (97, .one .top (.int .i64 (IntKind.wrap .i64 (r17 + 1))))
  refine w_regO ⟨[E1, E2, (E4 r5), E7], [], H19⟩ ?_ ?_
  refine o_run 1 (S94 r5) (by kernel_rfl) (by generalize r5 = qp0; cases qp0 <;> kernel_rfl) ?_
  refine o_one ⟨[E1, E2, (E4 r5), (E8 r5), (28, .one .top (.int .i64 r17))], [], H19⟩ (st_call (d := (some 28)) (fz := false) (pure := false) (own := false) (S94 r5) (ok_emit_Code_Jump H16 c18) (by generalize r5 = qp0; cases qp0 <;> kernel_rfl) (by generalize r5 = qp0; cases qp0 <;> kernel_rfl)) ?_
  refine o_run 1 ⟨[E1, E2, (E4 r5), E7, (E8 r5), (28, .one .top (.int .i64 r17))], [], H19⟩ (by kernel_rfl) (by generalize r5 = qp0; cases qp0 <;> kernel_rfl) ?_
  exact o_end (by kernel_rfl) (by kernel_rfl)
  refine w_seq ?_
  refine w_seq ?_
  refine w_reg ⟨[E1, E2, (E4 r5), E7, (8, .one .top (.int .i64 0))], [], H19⟩ (by generalize r5 = qp0; cases qp0 <;> kernel_rfl) ?_
  refine w_block ?_
  obtain ⟨r25, hL26, hF⟩ := bind1_inv hF
  refine w_loop (fun (x : (Int × Heap)) => (⟨[E1, E2, (E4 r5), E7, (8, .one .top (.int .i64 x.1))], [], x.2⟩ : St)) (fun (y : (Heap)) => ((.exit 2, (⟨[E1, (E4 r5), E7], [], y⟩ : St)) : Ex × St)) hL26 (by kernel_rfl) ?_ ?_
  rintro ⟨a20, H21⟩ o hF
  replace hF : law17_EmitLands_L2 p1 r5 a20 H21 = some o := hF
  let E9 : Nat × TV := (8, .one .top (.int .i64 a20))
  let S95 : Ptr → St := fun z0 => ⟨[E1, E2, (E4 z0), E7, E9, (E10 z0)], [], H21⟩
  unfold law17_EmitLands_L2 at hF
  refine w_seq ?_
  refine w_seq ?_
  refine w_reg ⟨[E1, E2, (E4 r5), E7, E9, (32, .one .top (.bool (decide (a20 < (IntKind.wrap .i64 p1)))))], [], H21⟩ (by generalize r5 = qp0; cases qp0 <;> kernel_rfl) ?_
  rcases if_inv hF with ⟨h22, hF⟩ | ⟨h22, hF⟩
  refine w_cT (m := .top) h22 (s1 := (⟨[E1, E2, (E4 r5), E7, E9], [], H21⟩ : St)) (by kernel_rfl) (by kernel_rfl) ?_
  refine w_skip ?_
  refine w_seq ?_
  refine w_block ?_
  obtain ⟨H24, c23, hF⟩ := bind1_inv hF
  refine w_regO ⟨[E1, E2, (E4 r5), E7, E9], [], H24⟩ ?_ ?_
  refine o_run 1 (S95 r5) (by kernel_rfl) (by generalize r5 = qp0; cases qp0 <;> kernel_rfl) ?_
  refine o_one ⟨[E1, E2, (E4 r5), E7, E9, (E10 r5), (36, .tup [])], [], H24⟩ (st_call (d := (some 36)) (fz := false) (pure := false) (own := false) (S95 r5) (ok_emit_Code_Number H21 c23) (by generalize r5 = qp0; cases qp0 <;> kernel_rfl) (by generalize r5 = qp0; cases qp0 <;> kernel_rfl)) ?_
  exact o_end (by kernel_rfl) (by kernel_rfl)
  refine w_reg ⟨[E1, E2, (E4 r5), E7, (8, .one .top (.int .i64 (IntKind.wrap .i64 (a20 + 1))))], [], H24⟩ (by generalize r5 = qp0; cases qp0 <;> kernel_rfl) ?_
  cases hF
  exact ⟨_, rfl, (by kernel_rfl)⟩
  refine w_cF (m := .top) h22 (s1 := (⟨[E1, (E4 r5), E7], [], H21⟩ : St)) (by kernel_rfl) (by kernel_rfl) ?_
  refine w_exit ?_
  cases hF
  exact ⟨_, rfl, (by kernel_rfl)⟩
  obtain ⟨H27, hy⟩ : ∃ y, y = r25 := ⟨_, rfl⟩
  subst hy
  let S96 : Ptr → St := fun z0 => ⟨[E1, (E4 z0), E7, (E11 z0), E12], [], H27⟩
  refine w_oe (i := 2) (s := (⟨[E1, (E4 r5), E7], [], H27⟩ : St)) (by kernel_rfl) ?_
  refine e_here ?_
  refine w_seq ?_
  obtain ⟨H29, c28, hF⟩ := bind1_inv hF
  let S97 : Ptr → St := fun z0 => ⟨[E1, (E4 z0), E7, (E14 z0)], [], H29⟩
  refine w_regO ⟨[E1, (E4 r5), E7], [], H29⟩ ?_ ?_
  refine o_run 2 (S96 r5) (by kernel_rfl) (by generalize r5 = qp0; cases qp0 <;> kernel_rfl) ?_
  refine o_one ⟨[E1, (E4 r5), E7, (E11 r5), E12, (39, .tup [])], [], H29⟩ (st_call (d := (some 39)) (fz := false) (pure := false) (own := false) (S96 r5) (ok_emit_Code_Land H27 c28) (by generalize r5 = qp0; cases qp0 <;> kernel_rfl) (by generalize r5 = qp0; cases qp0 <;> kernel_rfl)) ?_
  exact o_end (by kernel_rfl) (by kernel_rfl)
  refine w_seq ?_
  obtain ⟨r30, c31, hF⟩ := bind1_inv hF
  let E13 : Nat × TV := (9, .one .top (.int .i64 r30))
  let E48 : Nat × TV := (78, .one .top (.int .i64 r30))
  let E69 : Nat × TV := (101, .one .top (.int .i64 r30))
  let S98 : Ptr → St := fun z0 => ⟨[E1, (E4 z0), E7, E13, (E15 z0), E16], [], H29⟩
  refine w_regO ⟨[E1, (E4 r5), E7, E13], [], H29⟩ ?_ ?_
  refine o_run 1 (S97 r5) (by kernel_rfl) (by generalize r5 = qp0; cases qp0 <;> kernel_rfl) ?_
  refine o_one ⟨[E1, (E4 r5), E7, (E14 r5), (41, .one .top (.int .i64 r30))], [], H29⟩ (st_call (d := (some 41)) (fz := false) (pure := true) (own := false) (S97 r5) (ok_emit_Code_Here H29 c31) (by generalize r5 = qp0; cases qp0 <;> kernel_rfl) (by generalize r5 = qp0; cases qp0 <;> kernel_rfl)) ?_
  refine o_run 1 ⟨[E1, (E4 r5), E7, E13, (E14 r5), (41, .one .top (.int .i64 r30))], [], H29⟩ (by kernel_rfl) (by generalize r5 = qp0; cases qp0 <;> kernel_rfl) ?_
  exact o_end (by kernel_rfl) (by kernel_rfl)
  refine w_seq ?_
  obtain ⟨H33, c32, hF⟩ := bind1_inv hF
  let S99 : Ptr → St := fun z0 => ⟨[E1, (E4 z0), E7, E13, (E20 z0)], [], H33⟩
  refine w_regO ⟨[E1, (E4 r5), E7, E13], [], H33⟩ ?_ ?_
  refine o_run 2 (S98 r5) (by kernel_rfl) (by generalize r5 = qp0; cases qp0 <;> kernel_rfl) ?_
  refine o_one ⟨[E1, (E4 r5), E7, E13, (E15 r5), E16, (44, .tup [])], [], H33⟩ (st_call (d := (some 44)) (fz := false) (pure := false) (own := false) (S98 r5) (ok_emit_Code_Back H29 c32) (by generalize r5 = qp0; cases qp0 <;> kernel_rfl) (by generalize r5 = qp0; cases qp0 <;> kernel_rfl)) ?_
  exact o_end (by kernel_rfl) (by kernel_rfl)
  refine w_seq ?_
  obtain ⟨H37, r34, r35, c36, hF⟩ := bind3_inv hF
  let E18 : Nat × TV := (11, .one .top (.int .i64 r35))
  let B19 : Nat × List MC := (10, (m1_emit_Result r34))
  let E21 : Nat × TV := (47, .tup [.agg (m0_emit_Result r34), .one .top (.int .i64 r35)])
  let E22 : Nat × TV := (50, .one .top (.int .i64 r35))
  let E32 : Nat × TV := (60, .one .bl (.sl 1 (List.map (eI .u32) r34.Words_)))
  let E33 : Nat × TV := (61, .one .top (.int .i64 (r34.Words_.length : Int)))
  let E38 : Nat × TV := (68, .one .bl (.sl 1 (List.map (eI .u32) r34.Words_)))
  let E47 : Nat × TV := (77, .one .bl (.sl 1 (List.map (eI .u32) r34.Words_)))
  let S100 : St := ⟨[E1, E7, E13, E17, E18, E22, E23, E24, E25, E26, E27, E28, E29, E30, E31, E32], [B19], H37⟩
  let S101 : St := ⟨[E7, E13, E17, E37, E38, E39], [B19], H37⟩
  refine w_regO ⟨[E1, E7, E13, E17, E18], [B19], H37⟩ ?_ ?_
  refine o_run 1 (S99 r5) (by kernel_rfl) (by generalize r5 = qp0; cases qp0 <;> kernel_rfl) ?_
  refine o_one ⟨[E1, (E4 r5), E7, E13, (E20 r5), E21], [], H37⟩ (st_call (d := (some 47)) (fz := false) (pure := false) (own := false) (S99 r5) (ok_emit_Code_Finish H33 c36) (by generalize r5 = qp0; cases qp0 <;> kernel_rfl) (by generalize r5 = qp0; cases qp0 <;> kernel_rfl)) ?_
  refine o_run 6 ⟨[E1, (E4 r5), E7, E13, E17, E18, (45, .tup [.agg (m1_emit_Result r34), .one .top (.int .i64 r35)]), (E20 r5), E21, (48, .agg (m1_emit_Result r34)), (49, .one .top (.int .i64 r35))], [B19], H37⟩ (by kernel_rfl) (by generalize r5 = qp0; cases qp0 <;> kernel_rfl) ?_
  exact o_end (by kernel_rfl) (by kernel_rfl)
  refine w_seq ?_
  refine w_seq ?_
  refine w_regO ⟨[E7, E13, E17, (65, .one .top (.bool ((r35 != 0) || ((r17 != (IntKind.wrap .i64 p0)) || ((r34.Words_.length : Int) != (IntKind.wrap .i64 (r30 + 1)))))))], [B19], H37⟩ ?_ ?_
  refine o_run 3 ⟨[E1, E7, E13, E17, E18, E22, (51, .one .top (.bool (r35 != 0))), (52, .one .top (.bool (r35 != 0)))], [B19], H37⟩ (by kernel_rfl) (by kernel_rfl) ?_
  rcases bool_cases (r35 != 0) with h38 | h38
  refine o_eq (congrArg (fun q => (⟨[E1, E7, E13, E17, E18, E22, (51, .one .top (.bool q)), (52, .one .top (.bool q))], [B19], H37⟩ : St)) h38) ?_
  refine o_run 13 ⟨[E1, E7, E13, E17, E18, E22, (51, .one .top (.bool true)), (52, .one .top (.bool true)), (53, .tup []), (54, .tup []), (55, .tup []), (56, .tup []), (57, .one .top (.bool true)), (58, .one .top (.bool true)), (59, .tup []), (60, .tup []), (61, .tup []), (62, .tup []), (63, .tup []), (64, .tup []), (65, .one .top (.bool true))], [B19], H37⟩ (by kernel_rfl) (by kernel_rfl) ?_
  refine o_eq2 (congrArg (fun q0 => (⟨[E7, E13, E17, (65, .one .top (.bool q0))], [B19], H37⟩ : St)) (show true = ((r35 != 0) || ((r17 != (IntKind.wrap .i64 p0)) || ((r34.Words_.length : Int) != (IntKind.wrap .i64 (r30 + 1))))) by simp [h38])) ?_
  exact o_end (by kernel_rfl) (by kernel_rfl)
  refine o_eq (congrArg (fun q => (⟨[E1, E7, E13, E17, E18, E22, (51, .one .top (.bool q)), (52, .one .top (.bool q))], [B19], H37⟩ : St)) h38) ?_
  refine o_run 6 ⟨[E1, E7, E13, E17, E18, E22, E23, E24, E25, E26, E27, (56, .one .top (.bool (r17 != (IntKind.wrap .i64 p0)))), (57, .one .top (.bool (r17 != (IntKind.wrap .i64 p0)))), (58, .one .top (.bool (r17 != (IntKind.wrap .i64 p0))))], [B19], H37⟩ (by kernel_rfl) (by kernel_rfl) ?_
  rcases bool_cases (r17 != (IntKind.wrap .i64 p0)) with h39 | h39
  refine o_eq (congrArg (fun q => (⟨[E1, E7, E13, E17, E18, E22, E23, E24, E25, E26, E27, (56, .one .top (.bool q)), (57, .one .top (.bool q)), (58, .one .top (.bool q))], [B19], H37⟩ : St)) h39) ?_
  refine o_run 7 ⟨[E1, E7, E13, E17, E18, E22, E23, E24, E25, E26, E27, (56, .one .top (.bool true)), (57, .one .top (.bool true)), (58, .one .top (.bool true)), (59, .tup []), (60, .tup []), (61, .tup []), (62, .tup []), (63, .tup []), (64, .tup []), (65, .one .top (.bool true))], [B19], H37⟩ (by kernel_rfl) (by kernel_rfl) ?_
  refine o_eq2 (congrArg (fun q0 => (⟨[E7, E13, E17, (65, .one .top (.bool q0))], [B19], H37⟩ : St)) (show true = ((r35 != 0) || ((r17 != (IntKind.wrap .i64 p0)) || ((r34.Words_.length : Int) != (IntKind.wrap .i64 (r30 + 1))))) by simp [h38, h39])) ?_
  exact o_end (by kernel_rfl) (by kernel_rfl)
  refine o_eq (congrArg (fun q => (⟨[E1, E7, E13, E17, E18, E22, E23, E24, E25, E26, E27, (56, .one .top (.bool q)), (57, .one .top (.bool q)), (58, .one .top (.bool q))], [B19], H37⟩ : St)) h39) ?_
  refine o_run 2 S100 (by kernel_rfl) (by kernel_rfl) ?_
  refine o_one ⟨[E1, E7, E13, E17, E18, E22, E23, E24, E25, E26, E27, E28, E29, E30, E31, E32, E33], [B19], H37⟩ (st_len S100 r34.Words_ (eI .u32) (some 61) (by kernel_rfl) (by kernel_rfl)) ?_
  refine o_run 4 ⟨[E1, E7, E13, E17, E18, E22, E23, E24, E25, E26, E27, E28, E29, E30, E31, E32, E33, (62, .one .top (.int .i64 r30)), (63, .one .top (.int .i64 (IntKind.wrap .i64 (r30 + 1)))), (64, .one .top (.bool ((r34.Words_.length : Int) != (IntKind.wrap .i64 (r30 + 1))))), (65, .one .top (.bool ((r34.Words_.length : Int) != (IntKind.wrap .i64 (r30 + 1)))))], [B19], H37⟩ (by kernel_rfl) (by kernel_rfl) ?_
  refine o_eq2 (congrArg (fun q0 => (⟨[E7, E13, E17, (65, .one .top (.bool q0))], [B19], H37⟩ : St)) (show ((r34.Words_.length : Int) != (IntKind.wrap .i64 (r30 + 1))) = ((r35 != 0) || ((r17 != (IntKind.wrap .i64 p0)) || ((r34.Words_.length : Int) != (IntKind.wrap .i64 (r30 + 1))))) by simp [h38, h39])) ?_
  exact o_end (by kernel_rfl) (by kernel_rfl)
  rcases if_inv hF with ⟨h40, hF⟩ | ⟨h40, hF⟩
  refine w_cT (m := .top) h40 (s1 := (⟨[], [], H37⟩ : St)) (by kernel_rfl) (by kernel_rfl) ?_
  refine w_seq ?_
  refine w_reg ⟨[E3], [], H37⟩ (by kernel_rfl) ?_
  refine w_ret ?_
  obtain ⟨e0, e1⟩ := some2_inv hF
  subst e0
  subst e1
  exact fin_imp (v := .one .top (.bool false)) (by kernel_rfl) (by kernel_rfl) (by kernel_rfl)
  refine w_cF (m := .top) h40 (s1 := (⟨[E7, E13, E17], [B19], H37⟩ : St)) (by kernel_rfl) (by kernel_rfl) ?_
  refine w_skip ?_
  refine w_seq ?_
  obtain ⟨x41, h42, hF⟩ := bind1_inv hF
  let E40 : Nat × TV := (70, .one .top (.rd .bl .bl [.int .u32 x41] 0))
  let E41 : Nat × TV := (71, .one .top (.int .u32 x41))
  let S102 : St := ⟨[E7, E13, E17, E37, E38, E39, E40, E41], [B19], H37⟩
  obtain ⟨r43, r44, c45, hF⟩ := bind2_inv hF
  let E35 : Nat × TV := (13, .one .top (.int .i64 r44))
  let B36 : Nat × List MC := (12, (m0_ref02_Instr r43))
  let E42 : Nat × TV := (72, .tup [.agg (m0_ref02_Instr r43), .one .top (.int .i64 r44)])
  let E52 : Nat × TV := (84, .one .top (.int .i64 r44))
  let E60 : Nat × TV := (92, .one .top (.int .i64 r43.Op_))
  let E67 : Nat × TV := (99, .one .top (.int .i64 r43.Imm_))
  let E68 : Nat × TV := (100, .one .top (.int .i64 (IntKind.wrap .i64 ((IntKind.wrap .i64 (r17 + 1)) + r43.Imm_))))
  let S103 : St := ⟨[E7, E13, E17, E34, E35, E46, E47, E48], [B19, B36], H37⟩
  refine w_regO ⟨[E7, E13, E17, E34, E35], [B19, B36], H37⟩ ?_ ?_
  refine o_run 3 S101 (by kernel_rfl) (by kernel_rfl) ?_
  refine o_one ⟨[E7, E13, E17, E37, E38, E39, E40], [B19], H37⟩ (st_ix (X := X) S101 30 22 1 h42 (eI .u32) .bl (some 70) (by kernel_rfl) (by kernel_rfl) (by kernel_rfl) (by kernel_rfl)) ?_
  refine o_run 1 S102 (by kernel_rfl) (by kernel_rfl) ?_
  refine o_one ⟨[E7, E13, E17, E37, E38, E39, E40, E41, E42], [B19], H37⟩ (st_call (d := (some 72)) (fz := false) (pure := true) (own := false) S102 (ok_ref02_Decode H37 c45) (by kernel_rfl) (by kernel_rfl)) ?_
  refine o_run 6 ⟨[E7, E13, E17, E34, E35, (66, .tup [.agg (m0_ref02_Instr r43), .one .top (.int .i64 r44)]), E37, E38, E39, E40, E41, E42, (73, .agg (m0_ref02_Instr r43)), (74, .one .top (.int .i64 r44))], [B19, B36], H37⟩ (by kernel_rfl) (by kernel_rfl) ?_
  exact o_end (by kernel_rfl) (by kernel_rfl)
  refine w_seq ?_
  obtain ⟨x46, h47, hF⟩ := bind1_inv hF
  let E49 : Nat × TV := (79, .one .top (.rd .bl .bl [.int .u32 x46] 0))
  let E50 : Nat × TV := (80, .one .top (.int .u32 x46))
  let S104 : St := ⟨[E7, E13, E17, E34, E35, E46, E47, E48, E49, E50], [B19, B36], H37⟩
  obtain ⟨r48, r49, c50, hF⟩ := bind2_inv hF
  let E44 : Nat × TV := (15, .one .top (.int .i64 r49))
  let B45 : Nat × List MC := (14, (m0_ref02_Instr r48))
  let E51 : Nat × TV := (81, .tup [.agg (m0_ref02_Instr r48), .one .top (.int .i64 r49)])
  let E55 : Nat × TV := (87, .one .top (.int .i64 r49))
  let E74 : Nat × TV := (106, .one .top (.int .i64 r48.Op_))
  refine w_regO ⟨[E7, E13, E34, E35, E43, E44], [B36, B45], H37⟩ ?_ ?_
  refine o_run 3 S103 (by kernel_rfl) (by kernel_rfl) ?_
  refine o_one ⟨[E7, E13, E17, E34, E35, E46, E47, E48, E49], [B19, B36], H37⟩ (st_ix (X := X) S103 30 22 1 h47 (eI .u32) .bl (some 79) (by kernel_rfl) (by kernel_rfl) (by kernel_rfl) (by kernel_rfl)) ?_
  refine o_run 1 S104 (by kernel_rfl) (by kernel_rfl) ?_
  refine o_one ⟨[E7, E13, E17, E34, E35, E46, E47, E48, E49, E50, E51], [B19, B36], H37⟩ (st_call (d := (some 81)) (fz := false) (pure := true) (own := false) S104 (ok_ref02_Decode H37 c50) (by kernel_rfl) (by kernel_rfl)) ?_
  refine o_run 6 ⟨[E7, E13, E17, E34, E35, E43, E44, (75, .tup [.agg (m0_ref02_Instr r48), .one .top (.int .i64 r49)]), E46, E47, E48, E49, E50, E51, (82, .agg (m0_ref02_Instr r48)), (83, .one .top (.int .i64 r49))], [B19, B36, B45], H37⟩ (by kernel_rfl) (by kernel_rfl) ?_
  exact o_end (by kernel_rfl) (by kernel_rfl)
  refine w_seq ?_
  refine w_regO ⟨[(4, .one .top (.bool ((r44 == 0) && ((r49 == 0) && ((r43.Op_ == 20) && (((IntKind.wrap .i64 ((IntKind.wrap .i64 (r17 + 1)) + r43.Imm_)) == r30) && ((r48.Op_ == 21) && ((IntKind.wrap .i64 ((IntKind.wrap .i64 (r30 + 1)) + r48.Imm_)) == r17))))))))], [], H37⟩ ?_ ?_
  refine o_run 3 ⟨[E7, E13, E34, E35, E43, E44, E52, (85, .one .top (.bool (r44 == 0))), (86, .one .top (.bool (r44 == 0)))], [B36, B45], H37⟩ (by kernel_rfl) (by kernel_rfl) ?_
  rcases bool_cases (r44 == 0) with h51 | h51
  refine o_eq (congrArg (fun q => (⟨[E7, E13, E34, E35, E43, E44, E52, (85, .one .top (.bool q)), (86, .one .top (.bool q))], [B36, B45], H37⟩ : St)) h51) ?_
  refine o_run 4 ⟨[E7, E13, E34, E35, E43, E44, E52, E53, E54, E55, (88, .one .top (.bool (r49 == 0))), (89, .one .top (.bool (r49 == 0))), (90, .one .top (.bool (r49 == 0)))], [B36, B45], H37⟩ (by kernel_rfl) (by kernel_rfl) ?_
  rcases bool_cases (r49 == 0) with h52 | h52
  refine o_eq (congrArg (fun q => (⟨[E7, E13, E34, E35, E43, E44, E52, E53, E54, E55, (88, .one .top (.bool q)), (89, .one .top (.bool q)), (90, .one .top (.bool q))], [B36, B45], H37⟩ : St)) h52) ?_
  refine o_run 5 ⟨[E7, E13, E34, E35, E43, E44, E52, E53, E54, E55, E56, E57, E58, E59, E60, (93, .one .top (.bool (r43.Op_ == 20))), (94, .one .top (.bool (r43.Op_ == 20))), (95, .one .top (.bool (r43.Op_ == 20)))], [B36, B45], H37⟩ (by kernel_rfl) (by kernel_rfl) ?_
  rcases bool_cases (r43.Op_ == 20) with h53 | h53
  refine o_eq (congrArg (fun q => (⟨[E7, E13, E34, E35, E43, E44, E52, E53, E54, E55, E56, E57, E58, E59, E60, (93, .one .top (.bool q)), (94, .one .top (.bool q)), (95, .one .top (.bool q))], [B36, B45], H37⟩ : St)) h53) ?_
  refine o_run 9 ⟨[E7, E13, E34, E35, E43, E44, E52, E53, E54, E55, E56, E57, E58, E59, E60, E61, E62, E63, E64, E65, E66, E67, E68, E69, (102, .one .top (.bool ((IntKind.wrap .i64 ((IntKind.wrap .i64 (r17 + 1)) + r43.Imm_)) == r30))), (103, .one .top (.bool ((IntKind.wrap .i64 ((IntKind.wrap .i64 (r17 + 1)) + r43.Imm_)) == r30))), (104, .one .top (.bool ((IntKind.wrap .i64 ((IntKind.wrap .i64 (r17 + 1)) + r43.Imm_)) == r30)))], [B36, B45], H37⟩ (by kernel_rfl) (by kernel_rfl) ?_
  rcases bool_cases ((IntKind.wrap .i64 ((IntKind.wrap .i64 (r17 + 1)) + r43.Imm_)) == r30) with h54 | h54
  refine o_eq (congrArg (fun q => (⟨[E7, E13, E34, E35, E43, E44, E52, E53, E54, E55, E56, E57, E58, E59, E60, E61, E62, E63, E64, E65, E66, E67, E68, E69, (102, .one .top (.bool q)), (103, .one .top (.bool q)), (104, .one .top (.bool q))], [B36, B45], H37⟩ : St)) h54) ?_
  refine o_run 5 ⟨[E7, E13, E34, E35, E43, E44, E52, E53, E54, E55, E56, E57, E58, E59, E60, E61, E62, E63, E64, E65, E66, E67, E68, E69, E70, E71, E72, E73, E74, (107, .one .top (.bool (r48.Op_ == 21))), (108, .one .top (.bool (r48.Op_ == 21))), (109, .one .top (.bool (r48.Op_ == 21)))], [B36, B45], H37⟩ (by kernel_rfl) (by kernel_rfl) ?_
  rcases bool_cases (r48.Op_ == 21) with h55 | h55
  refine o_eq (congrArg (fun q => (⟨[E7, E13, E34, E35, E43, E44, E52, E53, E54, E55, E56, E57, E58, E59, E60, E61, E62, E63, E64, E65, E66, E67, E68, E69, E70, E71, E72, E73, E74, (107, .one .top (.bool q)), (108, .one .top (.bool q)), (109, .one .top (.bool q))], [B36, B45], H37⟩ : St)) h55) ?_
  refine o_run 9 ⟨[(4, .one .top (.bool ((IntKind.wrap .i64 ((IntKind.wrap .i64 (r30 + 1)) + r48.Imm_)) == r17))), E7, E13, E34, E35, E43, E44, E52, E53, E54, E55, E56, E57, E58, E59, E60, E61, E62, E63, E64, E65, E66, E67, E68, E69, E70, E71, E72, E73, E74, (107, .one .top (.bool true)), (108, .one .top (.bool true)), (109, .one .top (.bool true)), (110, .one .top (.int .i64 r30)), (111, .one .top (.int .i64 (IntKind.wrap .i64 (r30 + 1)))), (112, .one .top (.loc 14 4)), (113, .one .top (.int .i64 r48.Imm_)), (114, .one .top (.int .i64 (IntKind.wrap .i64 ((IntKind.wrap .i64 (r30 + 1)) + r48.Imm_)))), (115, .one .top (.int .i64 r17)), (116, .one .top (.bool ((IntKind.wrap .i64 ((IntKind.wrap .i64 (r30 + 1)) + r48.Imm_)) == r17))), (117, .one .top (.bool ((IntKind.wrap .i64 ((IntKind.wrap .i64 (r30 + 1)) + r48.Imm_)) == r17)))], [B36, B45], H37⟩ (by kernel_rfl) (by kernel_rfl) ?_
  refine o_eq2 (congrArg (fun q0 => (⟨[(4, .one .top (.bool q0))], [], H37⟩ : St)) (show ((IntKind.wrap .i64 ((IntKind.wrap .i64 (r30 + 1)) + r48.Imm_)) == r17) = ((r44 == 0) && ((r49 == 0) && ((r43.Op_ == 20) && (((IntKind.wrap .i64 ((IntKind.wrap .i64 (r17 + 1)) + r43.Imm_)) == r30) && ((r48.Op_ == 21) && ((IntKind.wrap .i64 ((IntKind.wrap .i64 (r30 + 1)) + r48.Imm_)) == r17)))))) by simp [h51, h52, h53, h54, h55])) ?_
  exact o_end (by kernel_rfl) (by kernel_rfl)
  refine o_eq (congrArg (fun q => (⟨[E7, E13, E34, E35, E43, E44, E52, E53, E54, E55, E56, E57, E58, E59, E60, E61, E62, E63, E64, E65, E66, E67, E68, E69, E70, E71, E72, E73, E74, (107, .one .top (.bool q)), (108, .one .top (.bool q)), (109, .one .top (.bool q))], [B36, B45], H37⟩ : St)) h55) ?_
  refine o_run 9 ⟨[E3, E7, E13, E34, E35, E43, E44, E52, E53, E54, E55, E56, E57, E58, E59, E60, E61, E62, E63, E64, E65, E66, E67, E68, E69, E70, E71, E72, E73, E74, (107, .one .top (.bool false)), E75, E76, E77, E78, E79, E80, E81, E82, E83, E84], [B36, B45], H37⟩ (by kernel_rfl) (by kernel_rfl) ?_
  refine o_eq2 (congrArg (fun q0 => (⟨[(4, .one .top (.bool q0))], [], H37⟩ : St)) (show false = ((r44 == 0) && ((r49 == 0) && ((r43.Op_ == 20) && (((IntKind.wrap .i64 ((IntKind.wrap .i64 (r17 + 1)) + r43.Imm_)) == r30) && ((r48.Op_ == 21) && ((IntKind.wrap .i64 ((IntKind.wrap .i64 (r30 + 1)) + r48.Imm_)) == r17)))))) by simp [h51, h52, h53, h54, h55])) ?_
  exact o_end (by kernel_rfl) (by kernel_rfl)
  refine o_eq (congrArg (fun q => (⟨[E7, E13, E34, E35, E43, E44, E52, E53, E54, E55, E56, E57, E58, E59, E60, E61, E62, E63, E64, E65, E66, E67, E68, E69, (102, .one .top (.bool q)), (103, .one .top (.bool q)), (104, .one .top (.bool q))], [B36, B45], H37⟩ : St)) h54) ?_
  refine o_run 14 ⟨[E3, E7, E13, E34, E35, E43, E44, E52, E53, E54, E55, E56, E57, E58, E59, E60, E61, E62, E63, E64, E65, E66, E67, E68, E69, (102, .one .top (.bool false)), E85, E86, E87, E88, E89, E75, E76, E77, E78, E79, E80, E81, E82, E83, E84], [B36, B45], H37⟩ (by kernel_rfl) (by kernel_rfl) ?_
  refine o_eq2 (congrArg (fun q0 => (⟨[(4, .one .top (.bool q0))], [], H37⟩ : St)) (show false = ((r44 == 0) && ((r49 == 0) && ((r43.Op_ == 20) && (((IntKind.wrap .i64 ((IntKind.wrap .i64 (r17 + 1)) + r43.Imm_)) == r30) && ((r48.Op_ == 21) && ((IntKind.wrap .i64 ((IntKind.wrap .i64 (r30 + 1)) + r48.Imm_)) == r17)))))) by simp [h51, h52, h53, h54])) ?_
  exact o_end (by kernel_rfl) (by kernel_rfl)
  refine o_eq (congrArg (fun q => (⟨[E7, E13, E34, E35, E43, E44, E52, E53, E54, E55, E56, E57, E58, E59, E60, (93, .one .top (.bool q)), (94, .one .top (.bool q)), (95, .one .top (.bool q))], [B36, B45], H37⟩ : St)) h53) ?_
  refine o_run 23 ⟨[E3, E7, E13, E34, E35, E43, E44, E52, E53, E54, E55, E56, E57, E58, E59, E60, (93, .one .top (.bool false)), E90, E91, (96, .tup []), (97, .tup []), (98, .tup []), (99, .tup []), (100, .tup []), (101, .tup []), (102, .tup []), E85, E86, E87, E88, E89, E75, E76, E77, E78, E79, E80, E81, E82, E83, E84], [B36, B45], H37⟩ (by kernel_rfl) (by kernel_rfl) ?_
  refine o_eq2 (congrArg (fun q0 => (⟨[(4, .one .top (.bool q0))], [], H37⟩ : St)) (show false = ((r44 == 0) && ((r49 == 0) && ((r43.Op_ == 20) && (((IntKind.wrap .i64 ((IntKind.wrap .i64 (r17 + 1)) + r43.Imm_)) == r30) && ((r48.Op_ == 21) && ((IntKind.wrap .i64 ((IntKind.wrap .i64 (r30 + 1)) + r48.Imm_)) == r17)))))) by simp [h51, h52, h53])) ?_
  exact o_end (by kernel_rfl) (by kernel_rfl)
  refine o_eq (congrArg (fun q => (⟨[E7, E13, E34, E35, E43, E44, E52, E53, E54, E55, (88, .one .top (.bool q)), (89, .one .top (.bool q)), (90, .one .top (.bool q))], [B36, B45], H37⟩ : St)) h52) ?_
  refine o_run 28 ⟨[E3, E7, E13, E34, E35, E43, E44, E52, E53, E54, E55, (88, .one .top (.bool false)), (89, .one .top (.bool false)), (90, .one .top (.bool false)), (91, .tup []), (92, .tup []), (93, .tup []), E90, E91, (96, .tup []), (97, .tup []), (98, .tup []), (99, .tup []), (100, .tup []), (101, .tup []), (102, .tup []), E85, E86, E87, E88, E89, E75, E76, E77, E78, E79, E80, E81, E82, E83, E84], [B36, B45], H37⟩ (by kernel_rfl) (by kernel_rfl) ?_
  refine o_eq2 (congrArg (fun q0 => (⟨[(4, .one .top (.bool q0))], [], H37⟩ : St)) (show false = ((r44 == 0) && ((r49 == 0) && ((r43.Op_ == 20) && (((IntKind.wrap .i64 ((IntKind.wrap .i64 (r17 + 1)) + r43.Imm_)) == r30) && ((r48.Op_ == 21) && ((IntKind.wrap .i64 ((IntKind.wrap .i64 (r30 + 1)) + r48.Imm_)) == r17)))))) by simp [h51, h52])) ?_
  exact o_end (by kernel_rfl) (by kernel_rfl)
  refine o_eq (congrArg (fun q => (⟨[E7, E13, E34, E35, E43, E44, E52, (85, .one .top (.bool q)), (86, .one .top (.bool q))], [B36, B45], H37⟩ : St)) h51) ?_
  refine o_run 32 ⟨[E3, E7, E13, E34, E35, E43, E44, E52, (85, .one .top (.bool false)), (86, .one .top (.bool false)), (87, .tup []), (88, .tup []), (89, .one .top (.bool false)), (90, .one .top (.bool false)), (91, .tup []), (92, .tup []), (93, .tup []), E90, E91, (96, .tup []), (97, .tup []), (98, .tup []), (99, .tup []), (100, .tup []), (101, .tup []), (102, .tup []), E85, E86, E87, E88, E89, E75, E76, E77, E78, E79, E80, E81, E82, E83, E84], [B36, B45], H37⟩ (by kernel_rfl) (by kernel_rfl) ?_
  refine o_eq2 (congrArg (fun q0 => (⟨[(4, .one .top (.bool q0))], [], H37⟩ : St)) (show false = ((r44 == 0) && ((r49 == 0) && ((r43.Op_ == 20) && (((IntKind.wrap .i64 ((IntKind.wrap .i64 (r17 + 1)) + r43.Imm_)) == r30) && ((r48.Op_ == 21) && ((IntKind.wrap .i64 ((IntKind.wrap .i64 (r30 + 1)) + r48.Imm_)) == r17)))))) by simp [h51])) ?_
  exact o_end (by kernel_rfl) (by kernel_rfl)
  refine w_ret ?_
  obtain ⟨e0, e1⟩ := some2_inv hF
  subst e0
  subst e1
  exact fin_imp (v := .one .top (.bool ((r44 == 0) && ((r49 == 0) && ((r43.Op_ == 20) && (((IntKind.wrap .i64 ((IntKind.wrap .i64 (r17 + 1)) + r43.Imm_)) == r30) && ((r48.Op_ == 21) && ((IntKind.wrap .i64 ((IntKind.wrap .i64 (r30 + 1)) + r48.Imm_)) == r17)))))))) (by kernel_rfl) (by kernel_rfl) (by kernel_rfl)
end Go.Proofs.Abs
