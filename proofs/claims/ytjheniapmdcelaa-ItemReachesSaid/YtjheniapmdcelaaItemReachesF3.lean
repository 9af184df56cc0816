/- The law ItemReaches: whatever the input, it answers true. No conditions. (Part ItemReachesF3 of its proof.) -/
import Derived.Test.YtjheniapmdcelaaItemReachesF2
set_option linter.unusedVariables false
set_option linter.unusedSimpArgs false
set_option linter.unusedSectionVars false
/- Printed by gen (walk.py). -/
namespace Go.Proofs.Abs
open Go Go.Proofs
set_option linter.unusedVariables false
set_option maxRecDepth 100000
set_option maxHeartbeats 0
noncomputable def law19_awake (H : Heap) : Option (Heap × Bool) :=
  bind2 (law19_begun H) fun H3 r1 =>
  if r1.isNil = true then (some (H3, false))
  else ((r1).bnd fun i5 o6 =>
  bind1 (get_item_Gen H3 i5 o6) fun x8 =>
  bind1 (emit_Code_Number H3 x8.Code_ 0 7) fun H11 =>
  bind1 (item_Gen_Wait H11 (Ptr.at i5 o6)) fun H13 =>
  bind1 (get_item_Gen H13 i5 o6) fun x14 =>
  bind1 (emit_Code_Number H13 x14.Code_ 0 (-2)) fun H17 =>
  bind2 (item_Gen_Two H17 (Ptr.at i5 o6) (ByteArray.mk #[68, 73, 86])) fun H20 r18 =>
  bind3 (law19_ended H20 (Ptr.at i5 o6) 0) fun H24 r21 r22 =>
  if ((!r22) || (r18 != 0)) = true then (some (H24, false))
  else (bind1 (law19_run (Ptr.at i5 o6) r21) fun r27 =>
  some (H24, ((r27.State_ == 1) && (((IntKind.wrap .i32 (r27.R_.g 0)) == (-4)) || false)))))
theorem ok_law19_awake (H : Heap) {ra : Bool} {Hr : Heap} (hF : law19_awake H = some (Hr, ra)) : evS X 14 [] H = some (.one .top (.bool ra), Hr) := by
  let E4 : EN := (0, .one .top (.bool false))
  let E21 : EN := (5, .one .top (.loc 5 0))
  let E26 : EN := (37, .one .top (.loc 5 19))
  let E28 : EN := (39, .one .top (.bool true))
  let E29 : EN := (40, .one .top (.bool true))
  let E30 : EN := (41, .one .top (.loc 5 0))
  let E31 : EN := (42, .one .top (.loc 5 0))
  let E34 : EN := (46, .one .top (.bool false))
  let E35 : EN := (47, .one .top (.bool false))
  let E36 : EN := (48, .one .top (.bool false))
  let E37 : EN := (49, .one .top (.bool false))
  let E38 : EN := (50, .one .top (.bool false))
  let E39 : EN := (51, .one .top (.bool false))
  let E40 : EN := (52, .one .top (.bool false))
  let S41 : St := ⟨[], [], H⟩
  refine yf Try.func14 false S41 ?_
  unfold law19_awake at hF
  refine ysg S41 ?_
  refine w_seq ?_
  obtain ⟨H3, r1, c2, hF⟩ := bind2_inv hF
  let E1 : Ptr → EN := fun z0 => (1, .one .top (Ptr.av z0))
  let E2 : Ptr → EN := fun z0 => (8, .one .top (.bool z0.isNil))
  let E3 : Ptr → EN := fun z0 => (7, .one .top (Ptr.av z0))
  let S42 : Ptr → St := fun z0 => ⟨[(E1 z0), (E3 z0)], [], H3⟩
  refine w_regO ⟨[(E1 r1)], [], H3⟩ ?_ ?_
  refine o_one ⟨[(6, .one .top (Ptr.av r1))], [], H3⟩ (st_call (d := (some 6)) (fz := false) (pure := false) (own := false) S41 (ok_law19_begun H c2) (by generalize r1 = qp0; cases qp0 <;> kernel_rfl) (by generalize r1 = qp0; cases qp0 <;> kernel_rfl)) ?_
  refine yr 1 ⟨[(E1 r1), (6, .one .top (Ptr.av r1))], [], H3⟩ ?_ (h := (by generalize r1 = qp0; cases qp0 <;> kernel_rfl))
  exact ye
  refine w_seq ?_
  refine yso ⟨[(E1 r1), (E2 r1)], [], H3⟩ ?_ ?_
  refine yr 1 (S42 r1) ?_ (h := (by generalize r1 = qp0; cases qp0 <;> kernel_rfl))
  refine o_one ⟨[(E1 r1), (E3 r1), (E2 r1)], [], H3⟩ (st_bin (S42 r1) (nil_eql (P := X.P) (ty := 23) (x := (.tmp 7)) (y := (.const (.pointer none))) (m := .top) (m' := .top) r1 (by generalize r1 = qp0; cases qp0 <;> kernel_rfl) (by generalize r1 = qp0; cases qp0 <;> kernel_rfl)) rfl (some 8) (by generalize r1 = qp0; cases qp0 <;> kernel_rfl) (by generalize r1 = qp0; cases qp0 <;> kernel_rfl)) ?_
  exact ye
  rcases if_inv hF with ⟨h4, hF⟩ | ⟨h4, hF⟩
  refine yT h4 ⟨[], [], H3⟩ ?_
  refine ysg ⟨[E4], [], H3⟩ ?_
  refine w_ret ?_
  obtain ⟨e0, e1⟩ := some2_inv hF
  subst e0
  subst e1
  exact yi (.one .top (.bool false))
  refine yF h4 ⟨[(E1 r1)], [], H3⟩ ?_
  refine w_skip ?_
  refine w_seq ?_
  obtain ⟨i5, o6, h7, hF⟩ := pbnd_inv hF
  let E5 : EN := (1, .one .top (.obj i5 o6))
  let E6 : EN := (9, .one .top (.obj i5 o6))
  let E7 : EN := (10, .one .top (.obj i5 o6))
  let E8 : EN := (11, .one .top (.obj i5 o6))
  let E9 : EN := (14, .one .top (.obj i5 o6))
  let E10 : EN := (16, .one .top (.obj i5 o6))
  let E11 : EN := (17, .one .top (.obj i5 o6))
  let E12 : EN := (18, .one .top (.obj i5 o6))
  let E14 : EN := (21, .one .top (.obj i5 o6))
  let E18 : EN := (24, .one .top (.obj i5 o6))
  let E23 : EN := (34, .one .top (.obj i5 o6))
  let S43 : St := ⟨[E5, E6, E7, E8], [], H3⟩
  obtain ⟨x8, V9, hF⟩ := bind1_inv hF
  replace V9 := hgetT_inv V9
  obtain ⟨H11, c10, hF⟩ := bind1_inv hF
  refine w_regO ⟨[E5], [], H11⟩ ?_ ?_
  refine yr 1 ⟨[(E1 r1), (9, .one .top (Ptr.av r1))], [], H3⟩ ?_ (h := (by generalize r1 = qp0; cases qp0 <;> kernel_rfl))
  refine o_eq (congrArg (fun q => (⟨[(1, .one .top (Ptr.av q)), (9, .one .top (Ptr.av q))], [], H3⟩ : St)) h7) ?_
  refine yr 1 ⟨[E5, E6, E7], [], H3⟩ ?_
  refine yr 1 S43 ?_ (h := (by generalize x8.Code_ = qp0; generalize x8.Proc_.frame_ = qp1; cases qp0 <;> cases qp1 <;> kernel_rfl))
  refine o_one ⟨[E5, E6, E7, E8, (12, .one .top (Ptr.av x8.Code_))], [], H3⟩ (yd (X := X) S43 26 V9 0 1 false (.one .top (Ptr.av x8.Code_)) (some 12) (hs := (by generalize x8.Code_ = qp0; generalize x8.Proc_.frame_ = qp1; cases qp0 <;> cases qp1 <;> kernel_rfl))) ?_
  refine o_one ⟨[E5, E6, E7, E8, (12, .one .top (Ptr.av x8.Code_)), (13, .tup [])], [], H11⟩ (st_call (d := (some 13)) (fz := false) (pure := false) (own := false) (⟨[E5, E6, E7, E8, (12, .one .top (Ptr.av x8.Code_))], [], H3⟩ : St) (ok_emit_Code_Number H3 c10) (by generalize x8.Code_ = qp0; generalize x8.Proc_.frame_ = qp1; cases qp0 <;> cases qp1 <;> kernel_rfl) (by generalize x8.Code_ = qp0; generalize x8.Proc_.frame_ = qp1; cases qp0 <;> cases qp1 <;> kernel_rfl)) ?_
  exact ye
  refine w_seq ?_
  obtain ⟨H13, c12, hF⟩ := bind1_inv hF
  let S44 : St := ⟨[E5, E10, E11, E12], [], H13⟩
  refine w_regO ⟨[E5], [], H13⟩ ?_ ?_
  refine yr 1 ⟨[E5, E9], [], H11⟩ ?_
  refine o_one ⟨[E5, E9, (15, .tup [])], [], H13⟩ (yc (some 15) false false (⟨[E5, E9], [], H11⟩ : St) (ok_item_Gen_Wait H11 c12)) ?_
  exact ye
  refine w_seq ?_
  obtain ⟨x14, V15, hF⟩ := bind1_inv hF
  replace V15 := hgetT_inv V15
  obtain ⟨H17, c16, hF⟩ := bind1_inv hF
  refine w_regO ⟨[E5], [], H17⟩ ?_ ?_
  refine yr 2 ⟨[E5, E10, E11], [], H13⟩ ?_
  refine yr 1 S44 ?_ (h := (by generalize x14.Code_ = qp0; generalize x14.Proc_.frame_ = qp1; cases qp0 <;> cases qp1 <;> kernel_rfl))
  refine o_one ⟨[E5, E10, E11, E12, (19, .one .top (Ptr.av x14.Code_))], [], H13⟩ (yd (X := X) S44 26 V15 0 1 false (.one .top (Ptr.av x14.Code_)) (some 19) (hs := (by generalize x14.Code_ = qp0; generalize x14.Proc_.frame_ = qp1; cases qp0 <;> cases qp1 <;> kernel_rfl))) ?_
  refine o_one ⟨[E5, E10, E11, E12, (19, .one .top (Ptr.av x14.Code_)), (20, .tup [])], [], H17⟩ (st_call (d := (some 20)) (fz := false) (pure := false) (own := false) (⟨[E5, E10, E11, E12, (19, .one .top (Ptr.av x14.Code_))], [], H13⟩ : St) (ok_emit_Code_Number H13 c16) (by generalize x14.Code_ = qp0; generalize x14.Proc_.frame_ = qp1; cases qp0 <;> cases qp1 <;> kernel_rfl) (by generalize x14.Code_ = qp0; generalize x14.Proc_.frame_ = qp1; cases qp0 <;> cases qp1 <;> kernel_rfl)) ?_
  exact ye
  refine w_seq ?_
  obtain ⟨H20, r18, c19, hF⟩ := bind2_inv hF
  let E13 : EN := (2, .one .top (.int .i64 r18))
  let E15 : EN := (22, .one .top (.int .i64 r18))
  let S45 : St := ⟨[E5, E13, E18], [], H20⟩
  refine w_regO ⟨[E5, E13], [], H20⟩ ?_ ?_
  refine yr 1 ⟨[E5, E14], [], H17⟩ ?_
  refine o_one ⟨[E5, E14, E15], [], H20⟩ (yc (some 22) false false (⟨[E5, E14], [], H17⟩ : St) (ok_item_Gen_Two H17 c19)) ?_
  refine yr 1 ⟨[E5, E13, E14, E15], [], H20⟩ ?_
  exact ye
  refine w_seq ?_
  obtain ⟨H24, r21, r22, c23, hF⟩ := bind3_inv hF
  let E16 : EN := (3, .one .bl (.sl 1 (List.map (eI .u32) r21)))
  let E17 : EN := (4, .one .top (.bool r22))
  let E19 : EN := (25, .tup [.one (.own 1) (.sl 1 (List.map (eI .u32) r21)), .one .top (.bool r22)])
  let E20 : EN := (28, .one .top (.bool r22))
  let E24 : EN := (35, .one .bl (.sl 1 (List.map (eI .u32) r21)))
  let S46 : St := ⟨[E5, E16, E23, E24], [], H24⟩
  refine w_regO ⟨[E5, E13, E16, E17], [], H24⟩ ?_ ?_
  refine yr 1 S45 ?_
  refine o_one ⟨[E5, E13, E18, E19], [], H24⟩ (yc (some 25) false false S45 (ok_law19_ended H20 c23)) ?_
  refine yr 5 ⟨[E5, E13, E16, E17, (23, .tup [.one .bl (.sl 1 (List.map (eI .u32) r21)), .one .top (.bool r22)]), E18, E19, (26, .one .bl (.sl 1 (List.map (eI .u32) r21))), (27, .one .top (.bool r22))], [], H24⟩ ?_
  exact ye
  refine w_seq ?_
  refine yso ⟨[E5, E16, (33, .one .top (.bool ((!r22) || (r18 != 0))))], [], H24⟩ ?_ ?_
  refine yr 3 ⟨[E5, E13, E16, E17, E20, (29, .one .top (.bool (!r22))), (30, .one .top (.bool (!r22)))], [], H24⟩ ?_
  rcases bool_cases (!r22) with h25 | h25
  refine o_eq (congrArg (fun q => (⟨[E5, E13, E16, E17, E20, (29, .one .top (.bool q)), (30, .one .top (.bool q))], [], H24⟩ : St)) h25) ?_
  refine yr 3 ⟨[E5, E13, E16, E17, E20, (29, .one .top (.bool true)), (30, .one .top (.bool true)), (31, .tup []), (32, .tup []), (33, .one .top (.bool true))], [], H24⟩ ?_
  refine o_eq2 (congrArg (fun q0 => (⟨[E5, E16, (33, .one .top (.bool q0))], [], H24⟩ : St)) (show true = ((!r22) || (r18 != 0)) by simp [h25])) ?_
  exact ye
  refine o_eq (congrArg (fun q => (⟨[E5, E13, E16, E17, E20, (29, .one .top (.bool q)), (30, .one .top (.bool q))], [], H24⟩ : St)) h25) ?_
  refine yr 3 ⟨[E5, E13, E16, E17, E20, (29, .one .top (.bool false)), (30, .one .top (.bool false)), (31, .one .top (.int .i64 r18)), (32, .one .top (.bool (r18 != 0))), (33, .one .top (.bool (r18 != 0)))], [], H24⟩ ?_
  refine o_eq2 (congrArg (fun q0 => (⟨[E5, E16, (33, .one .top (.bool q0))], [], H24⟩ : St)) (show (r18 != 0) = ((!r22) || (r18 != 0)) by simp [h25])) ?_
  exact ye
  rcases if_inv hF with ⟨h26, hF⟩ | ⟨h26, hF⟩
  refine yT h26 ⟨[], [], H24⟩ ?_
  refine ysg ⟨[E4], [], H24⟩ ?_
  refine w_ret ?_
  obtain ⟨e0, e1⟩ := some2_inv hF
  subst e0
  subst e1
  exact yi (.one .top (.bool false))
  refine yF h26 ⟨[E5, E16], [], H24⟩ ?_
  refine w_skip ?_
  refine w_seq ?_
  obtain ⟨r27, c28, hF⟩ := bind1_inv hF
  let B22 : EB := (5, (m1_ref04_Cpu r27))
  let E25 : EN := (36, .agg (m1_ref04_Cpu r27))
  let E27 : EN := (38, .one .top (.int .i64 r27.State_))
  let E32 : EN := (43, .one .top (.int .u32 (r27.R_.g 0)))
  let E33 : EN := (44, .one .top (.int .i32 (IntKind.wrap .i32 (r27.R_.g 0))))
  refine w_regO ⟨[E21], [B22], H24⟩ ?_ ?_
  refine yr 2 S46 ?_
  refine o_one ⟨[E5, E16, E23, E24, E25], [], H24⟩ (yc (some 36) true false S46 (ok_law19_run H24 c28)) ?_
  refine yr 2 ⟨[E5, E16, E21, E23, E24, E25], [B22], H24⟩ ?_
  exact ye
  refine yso ⟨[(0, .one .top (.bool ((r27.State_ == 1) && (((IntKind.wrap .i32 (r27.R_.g 0)) == (-4)) || false))))], [], H24⟩ ?_ ?_
  refine yr 4 ⟨[E21, E26, E27, (39, .one .top (.bool (r27.State_ == 1))), (40, .one .top (.bool (r27.State_ == 1)))], [B22], H24⟩ ?_
  rcases bool_cases (r27.State_ == 1) with h29 | h29
  refine o_eq (congrArg (fun q => (⟨[E21, E26, E27, (39, .one .top (.bool q)), (40, .one .top (.bool q))], [B22], H24⟩ : St)) h29) ?_
  refine yr 7 ⟨[E21, E26, E27, E28, E29, E30, E31, E32, E33, (45, .one .top (.bool ((IntKind.wrap .i32 (r27.R_.g 0)) == (-4)))), (46, .one .top (.bool ((IntKind.wrap .i32 (r27.R_.g 0)) == (-4)))), (47, .one .top (.bool ((IntKind.wrap .i32 (r27.R_.g 0)) == (-4))))], [B22], H24⟩ ?_
  rcases bool_cases ((IntKind.wrap .i32 (r27.R_.g 0)) == (-4)) with h30 | h30
  refine o_eq (congrArg (fun q => (⟨[E21, E26, E27, E28, E29, E30, E31, E32, E33, (45, .one .top (.bool q)), (46, .one .top (.bool q)), (47, .one .top (.bool q))], [B22], H24⟩ : St)) h30) ?_
  refine yr 6 ⟨[(0, .one .top (.bool true)), E21, E26, E27, E28, E29, E30, E31, E32, E33, (45, .one .top (.bool true)), (46, .one .top (.bool true)), (47, .one .top (.bool true)), (48, .one .top (.bool true)), (49, .one .top (.bool true)), (50, .one .top (.bool true)), (51, .one .top (.bool true)), (52, .one .top (.bool true))], [B22], H24⟩ ?_
  refine o_eq2 (congrArg (fun q0 => (⟨[(0, .one .top (.bool q0))], [], H24⟩ : St)) (show true = ((r27.State_ == 1) && (((IntKind.wrap .i32 (r27.R_.g 0)) == (-4)) || false)) by simp [h29, h30])) ?_
  exact ye
  refine o_eq (congrArg (fun q => (⟨[E21, E26, E27, E28, E29, E30, E31, E32, E33, (45, .one .top (.bool q)), (46, .one .top (.bool q)), (47, .one .top (.bool q))], [B22], H24⟩ : St)) h30) ?_
  refine yr 6 ⟨[E4, E21, E26, E27, E28, E29, E30, E31, E32, E33, (45, .one .top (.bool false)), E34, E35, E36, E37, E38, E39, E40], [B22], H24⟩ ?_
  refine o_eq2 (congrArg (fun q0 => (⟨[(0, .one .top (.bool q0))], [], H24⟩ : St)) (show false = ((r27.State_ == 1) && (((IntKind.wrap .i32 (r27.R_.g 0)) == (-4)) || false)) by simp [h29, h30])) ?_
  exact ye
  refine o_eq (congrArg (fun q => (⟨[E21, E26, E27, (39, .one .top (.bool q)), (40, .one .top (.bool q))], [B22], H24⟩ : St)) h29) ?_
  refine yr 13 ⟨[E4, E21, E26, E27, (39, .one .top (.bool false)), (40, .one .top (.bool false)), (41, .tup []), (42, .tup []), (43, .tup []), (44, .tup []), (45, .tup []), E34, E35, E36, E37, E38, E39, E40], [B22], H24⟩ ?_
  refine o_eq2 (congrArg (fun q0 => (⟨[(0, .one .top (.bool q0))], [], H24⟩ : St)) (show false = ((r27.State_ == 1) && (((IntKind.wrap .i32 (r27.R_.g 0)) == (-4)) || false)) by simp [h29])) ?_
  exact ye
  refine w_ret ?_
  obtain ⟨e0, e1⟩ := some2_inv hF
  subst e0
  subst e1
  exact yi (.one .top (.bool ((r27.State_ == 1) && (((IntKind.wrap .i32 (r27.R_.g 0)) == (-4)) || false))))
noncomputable def emit_Code_Here (H : Heap) (p0 : Ptr) : Option (Int) :=
  (p0).bnd fun i1 o2 =>
  bind1 (get_emit_Code H i1 o2) fun x4 =>
  some (x4.words_.length : Int)
theorem len_emit_Code_Here {H : Heap} {i o : Nat} {l : List Int} {cs : List MC} (V : hget H i o 8 = some ((.own 1, .sl 1 (List.map (eI .u32) l)) :: cs)) : evS X 42 [.one .top (.obj i o)] H = some (.one .top (.int .i64 (l.length : Int)), H) := by
  refine yf Try.func42 true ⟨[(0, .one .top (.obj i o))], [], H⟩ ?_
  refine ysg ⟨[(0, .one .top (.obj i o))], [], H⟩ ?_
  refine yso ⟨[(2, .one .top (.int .i64 (l.length : Int)))], [], H⟩ ?_ ?_
  refine yr 3 ⟨[(0, .one .top (.obj i o)), (3, .one .top (.obj i o)), (4, .one .top (.obj i o)), (5, .one .top (.obj i o))], [], H⟩ ?_
  refine o_one ⟨[(0, .one .top (.obj i o)), (3, .one .top (.obj i o)), (4, .one .top (.obj i o)), (5, .one .top (.obj i o)), (6, .one .bh (.sl 1 (List.map (eI .u32) l)))], [], H⟩ (yd (X := X) ⟨[(0, .one .top (.obj i o)), (3, .one .top (.obj i o)), (4, .one .top (.obj i o)), (5, .one .top (.obj i o))], [], H⟩ 42 V 0 1 false (.one .bh (.sl 1 (List.map (eI .u32) l))) (some 6)) ?_
  refine o_one ⟨[(0, .one .top (.obj i o)), (3, .one .top (.obj i o)), (4, .one .top (.obj i o)), (5, .one .top (.obj i o)), (6, .one .bh (.sl 1 (List.map (eI .u32) l))), (7, .one .top (.int .i64 (l.length : Int)))], [], H⟩ (yl ⟨[(0, .one .top (.obj i o)), (3, .one .top (.obj i o)), (4, .one .top (.obj i o)), (5, .one .top (.obj i o)), (6, .one .bh (.sl 1 (List.map (eI .u32) l)))], [], H⟩ l (eI .u32) (some 7)) ?_
  refine yr 1 ⟨[(0, .one .top (.obj i o)), (2, .one .top (.int .i64 (l.length : Int))), (3, .one .top (.obj i o)), (4, .one .top (.obj i o)), (5, .one .top (.obj i o)), (6, .one .bh (.sl 1 (List.map (eI .u32) l))), (7, .one .top (.int .i64 (l.length : Int)))], [], H⟩ ?_
  exact ye
  refine w_ret ?_
  exact yp (.one .top (.int .i64 (l.length : Int)))
noncomputable def emit_Code_Fix (H : Heap) (p0 : Ptr) (p1 : Int) (p2 : Int) (p3 : Int) (p4 : Int) : Option (Heap) :=
  (p0).bnd fun i1 o2 =>
  bind1 (get_emit_Code H i1 o2) fun x4 =>
  bind1 (app 32 x4.fixups_ ([(T_api_Fixup.mk (x4.words_.length : Int) p1 p2 p3)] : List T_api_Fixup)) fun v6 =>
  bnd (set_emit_Code H i1 o2 (T_emit_Code.mk x4.words_ v6 x4.marks_ x4.pads_ x4.active_ x4.depth_ x4.most_ x4.err_)) fun H8 =>
  if (p1 == 3) = true then (bind2 (emit_Code_Put H8 (Ptr.at i1 o2) (T_instr_Instr.mk 23 0 0 0 0)) fun H14 r12 =>
  some H14)
  else (bind2 (emit_Code_Put H8 (Ptr.at i1 o2) (T_instr_Instr.mk 3 p4 0 0 0)) fun H17 r15 =>
  bind2 (emit_Code_Put H17 (Ptr.at i1 o2) (T_instr_Instr.mk 4 p4 p4 0 0)) fun H20 r18 =>
  some H20)
theorem ok_emit_Code_Fix (H : Heap) {p0 : Ptr} {p1 : Int} {p2 : Int} {p3 : Int} {p4 : Int} {Hr : Heap} (hF : emit_Code_Fix H p0 p1 p2 p3 p4 = some Hr) : evS X 77 [.one .top (Ptr.av p0), .one .top (.int .i64 p1), .one .top (.int .i64 p2), .one .top (.int .i64 p3), .one .top (.int .i64 p4)] H = some (.tup [], Hr) := by
  let E1 : Ptr → EN := fun z0 => (0, .one .top (Ptr.av z0))
  let E2 : EN := (1, .one .top (.int .i64 p1))
  let E3 : EN := (2, .one .top (.int .i64 p2))
  let E4 : EN := (3, .one .top (.int .i64 p3))
  let E5 : EN := (4, .one .top (.int .i64 p4))
  let E7 : Ptr → EN := fun z0 => (10, .one .top (Ptr.av z0))
  let E13 : EN := (17, .one .top (.int .i64 p1))
  let E14 : EN := (18, .one .top (.int .i64 p2))
  let E15 : EN := (19, .one .top (.int .i64 p3))
  let E16 : EN := (14, .one .top .junk)
  let E19 : EN := (21, .one .top .junk)
  let E20 : EN := (22, .one .top .junk)
  let E27 : EN := (28, .agg ([(.top, .int .i64 23)] ++ List.replicate 4 (.top, .int .i64 0)))
  let E29 : EN := (31, .one .top (.int .i64 p4))
  let E30 : EN := (32, .agg [(.top, .int .i64 3), (.top, .int .i64 p4), (.top, .int .i64 0), (.top, .int .i64 0), (.top, .int .i64 0)])
  let E32 : EN := (35, .one .top (.int .i64 p4))
  let E33 : EN := (36, .one .top (.int .i64 p4))
  let E34 : EN := (37, .agg [(.top, .int .i64 4), (.top, .int .i64 p4), (.top, .int .i64 p4), (.top, .int .i64 0), (.top, .int .i64 0)])
  refine yf Try.func77 false ⟨[(E1 p0), E2, E3, E4, E5], [], H⟩ ?_
  unfold emit_Code_Fix at hF
  refine w_seq ?_
  obtain ⟨i1, o2, h3, hF⟩ := pbnd_inv hF
  let E6 : EN := (0, .one .top (.obj i1 o2))
  let E8 : EN := (10, .one .top (.obj i1 o2))
  let E9 : EN := (11, .one .top (.obj i1 o2))
  let E10 : EN := (12, .one .top (.obj i1 o2))
  let E11 : EN := (13, .one .top (.obj i1 (o2 + 1)))
  let E12 : EN := (15, .one .top (.obj i1 o2))
  let E21 : EN := (23, .one .top (.obj i1 o2))
  let E22 : EN := (24, .one .top (.obj i1 (o2 + 1)))
  let E26 : EN := (27, .one .top (.obj i1 o2))
  let E28 : EN := (30, .one .top (.obj i1 o2))
  let E31 : EN := (34, .one .top (.obj i1 o2))
  let S35 : St := ⟨[E6, E2, E3, E4, E5, E8, E9, E10, E11, E12, E13, E14, E15], [], H⟩
  obtain ⟨x4, V5, hF⟩ := bind1_inv hF
  replace V5 := hgetT_inv V5
  let E17 : EN := (16, .one .top (.int .i64 (x4.words_.length : Int)))
  let E18 : EN := (20, .agg [(.top, .int .i64 (x4.words_.length : Int)), (.top, .int .i64 p1), (.top, .int .i64 p2), (.top, .int .i64 p3)])
  let E23 : EN := (14, .one (.own 1) (.sl 4 (List.map e_api_Fixup x4.fixups_)))
  let E24 : EN := (21, .one (.own 1) (.sl 4 (List.map e_api_Fixup ([(T_api_Fixup.mk (x4.words_.length : Int) p1 p2 p3)] : List T_api_Fixup))))
  let S37 : St := ⟨[E6, E2, E3, E4, E5, E8, E9, E10, E11, E23, E12, E13, E14, E15], [], (hset H i1 o2 [((.own 1), .sl 1 (List.map (eI .u32) x4.words_)), (.top, .junk), ((.own 1), .sl 2 (List.map e_api_Segment x4.marks_.list_)), ((.own 1), .sl 1 (List.map (eI .i64) x4.pads_)), ((.own 1), .sl 1 (List.map (eI .i64) x4.active_)), (.top, .int .i64 x4.depth_), (.top, .int .i64 x4.most_), (.top, .int .i64 x4.err_)])⟩
  let S38 : St := ⟨[E6, E2, E3, E4, E5, E8, E9, E10, E11, E23, E12, E17, E13, E14, E15, E18], [], (hset H i1 o2 [((.own 1), .sl 1 (List.map (eI .u32) x4.words_)), (.top, .junk), ((.own 1), .sl 2 (List.map e_api_Segment x4.marks_.list_)), ((.own 1), .sl 1 (List.map (eI .i64) x4.pads_)), ((.own 1), .sl 1 (List.map (eI .i64) x4.active_)), (.top, .int .i64 x4.depth_), (.top, .int .i64 x4.most_), (.top, .int .i64 x4.err_)])⟩
  let S39 : St := ⟨[E6, E2, E3, E4, E5, E8, E9, E10, E11, E23, E12, E17, E13, E14, E15, E18, E24], [], (hset H i1 o2 [((.own 1), .sl 1 (List.map (eI .u32) x4.words_)), (.top, .junk), ((.own 1), .sl 2 (List.map e_api_Segment x4.marks_.list_)), ((.own 1), .sl 1 (List.map (eI .i64) x4.pads_)), ((.own 1), .sl 1 (List.map (eI .i64) x4.active_)), (.top, .int .i64 x4.depth_), (.top, .int .i64 x4.most_), (.top, .int .i64 x4.err_)])⟩
  let S41 : St := ⟨[E6, E2, E3, E4, E5, E8, E9, E10, E11, E16, E12, E17, E13, E14, E15, E18, E19], [], (hset H i1 o2 [((.own 1), .sl 1 (List.map (eI .u32) x4.words_)), (.top, .junk), ((.own 1), .sl 2 (List.map e_api_Segment x4.marks_.list_)), ((.own 1), .sl 1 (List.map (eI .i64) x4.pads_)), ((.own 1), .sl 1 (List.map (eI .i64) x4.active_)), (.top, .int .i64 x4.depth_), (.top, .int .i64 x4.most_), (.top, .int .i64 x4.err_)])⟩
  let S44 : St := ⟨[E6, E2, E3, E4, E5, E8, E9, E10, E11, E16, E12, E17, E13, E14, E15, E18, E19, E20, E21, E22], [], (hset H i1 o2 [((.own 1), .sl 1 (List.map (eI .u32) x4.words_)), (.top, .junk), ((.own 1), .sl 2 (List.map e_api_Segment x4.marks_.list_)), ((.own 1), .sl 1 (List.map (eI .i64) x4.pads_)), ((.own 1), .sl 1 (List.map (eI .i64) x4.active_)), (.top, .int .i64 x4.depth_), (.top, .int .i64 x4.most_), (.top, .int .i64 x4.err_)])⟩
  let S45 : St := ⟨[E6, E2, E3, E4, E5, E8, E9, E10, E11, E12, E17, E13, E14, E15, E18], [], H⟩
  let S46 : St := ⟨[E6, E2, E3, E4, E5, E8, E9, E10, E11, E12, E17, E13, E14, E15, E18, E24], [], H⟩
  obtain ⟨v6, h7, hF⟩ := bind1_inv hF
  let E25 : EN := (22, .one (.own 1) (.sl 4 (List.map e_api_Fixup v6)))
  let S36 : St := ⟨[E6, E2, E3, E4, E5, E8, E9, E10, E11, E16, E12, E17, E13, E14, E15, E18, E19, E20, E21, E22], [], (hset H i1 o2 [((.own 1), .sl 1 (List.map (eI .u32) x4.words_)), ((.own 1), .sl 4 (List.map e_api_Fixup v6)), ((.own 1), .sl 2 (List.map e_api_Segment x4.marks_.list_)), ((.own 1), .sl 1 (List.map (eI .i64) x4.pads_)), ((.own 1), .sl 1 (List.map (eI .i64) x4.active_)), (.top, .int .i64 x4.depth_), (.top, .int .i64 x4.most_), (.top, .int .i64 x4.err_)])⟩
  let S40 : St := ⟨[E6, E2, E3, E4, E5, E8, E9, E10, E11, E16, E12, E17, E13, E14, E15, E18, E19, E25], [], (hset H i1 o2 [((.own 1), .sl 1 (List.map (eI .u32) x4.words_)), (.top, .junk), ((.own 1), .sl 2 (List.map e_api_Segment x4.marks_.list_)), ((.own 1), .sl 1 (List.map (eI .i64) x4.pads_)), ((.own 1), .sl 1 (List.map (eI .i64) x4.active_)), (.top, .int .i64 x4.depth_), (.top, .int .i64 x4.most_), (.top, .int .i64 x4.err_)])⟩
  let S42 : St := ⟨[E6, E2, E3, E4, E5, E8, E9, E10, E11, E16, E12, E17, E13, E14, E15, E18, E19, E25, E21], [], (hset H i1 o2 [((.own 1), .sl 1 (List.map (eI .u32) x4.words_)), (.top, .junk), ((.own 1), .sl 2 (List.map e_api_Segment x4.marks_.list_)), ((.own 1), .sl 1 (List.map (eI .i64) x4.pads_)), ((.own 1), .sl 1 (List.map (eI .i64) x4.active_)), (.top, .int .i64 x4.depth_), (.top, .int .i64 x4.most_), (.top, .int .i64 x4.err_)])⟩
  let S43 : St := ⟨[E6, E2, E3, E4, E5, E8, E9, E10, E11, E16, E12, E17, E13, E14, E15, E18, E19, E25, E21, E22], [], (hset H i1 o2 [((.own 1), .sl 1 (List.map (eI .u32) x4.words_)), (.top, .junk), ((.own 1), .sl 2 (List.map e_api_Segment x4.marks_.list_)), ((.own 1), .sl 1 (List.map (eI .i64) x4.pads_)), ((.own 1), .sl 1 (List.map (eI .i64) x4.active_)), (.top, .int .i64 x4.depth_), (.top, .int .i64 x4.most_), (.top, .int .i64 x4.err_)])⟩
  obtain ⟨H8, h9, hF⟩ := bnd_inv hF
  let S47 : St := ⟨[E6, E26, E27], [], H8⟩
  let S48 : St := ⟨[E6, E5, E28, E29, E30], [], H8⟩
  have V10 : hget H8 i1 o2 8 = some (o_emit_Code (T_emit_Code.mk x4.words_ v6 x4.marks_ x4.pads_ x4.active_ x4.depth_ x4.most_ x4.err_)) := by rw [← h9]; exact hset_get V5 rfl
  let K50 : Sch := .last 11 (.last 12 (.take 13 (.take 14 (.last 15 .done))))
  refine w_regD (.take 0 (.take 1 (.take 2 (.take 3 (.take 5 (.take 7 (.take 8 (.take 9 (.alt 4 (.last 6 (.take 10 K50)) (.last 6 (.take 10 (.alt 4 K50 (.last 11 (.last 4 (.last 12 (.take 13 (.take 14 (.last 15 .done)))))))))))))))))) (by kernel_rfl) (⟨[E6, E2, E5], [], H8⟩ : St) ?_ ?_
  refine d_take ⟨[(E1 p0), E2, E3, E4, E5, (E7 p0)], [], H⟩ (by generalize p0 = qp0; cases qp0 <;> kernel_rfl) ?_
  refine d_take ⟨[(E1 p0), E2, E3, E4, E5, (E7 p0), (11, .one .top (Ptr.av p0))], [], H⟩ (by generalize p0 = qp0; cases qp0 <;> kernel_rfl) ?_
  refine d_eq (congrArg (fun q => (⟨[(0, .one .top (Ptr.av q)), E2, E3, E4, E5, (10, .one .top (Ptr.av q)), (11, .one .top (Ptr.av q))], [], H⟩ : St)) h3) ?_
  refine ydt ⟨[E6, E2, E3, E4, E5, E8, E9, E10], [], H⟩ ?_
  refine ydt ⟨[E6, E2, E3, E4, E5, E8, E9, E10, E11], [], H⟩ ?_
  refine ydt ⟨[E6, E2, E3, E4, E5, E8, E9, E10, E11, E12], [], H⟩ ?_
  refine ydt ⟨[E6, E2, E3, E4, E5, E8, E9, E10, E11, E12, E13], [], H⟩ ?_
  refine ydt ⟨[E6, E2, E3, E4, E5, E8, E9, E10, E11, E12, E13, E14], [], H⟩ ?_
  refine ydt S35 ?_
  refine q_in S36 ?_ ?_
  refine q_alt S37 (st_ldT (X := X) (h2 := (hset H i1 o2 [((.own 1), .sl 1 (List.map (eI .u32) x4.words_)), (.top, .junk), ((.own 1), .sl 2 (List.map e_api_Segment x4.marks_.list_)), ((.own 1), .sl 1 (List.map (eI .i64) x4.pads_)), ((.own 1), .sl 1 (List.map (eI .i64) x4.active_)), (.top, .int .i64 x4.depth_), (.top, .int .i64 x4.most_), (.top, .int .i64 x4.err_)])) S35 128 V5 1 1 false (.one (.own 1) (.sl 4 (List.map e_api_Fixup x4.fixups_))) (some 14) (by kernel_rfl) (by kernel_rfl) (by kernel_rfl) (by kernel_rfl) (by kernel_rfl) (hset_sub0 V5 (Nat.le_of_ble_eq_true rfl)) (by kernel_rfl)) ?_ ?_
  refine q_last ⟨[E6, E2, E3, E4, E5, E8, E9, E10, E11, E23, E12, E17, E13, E14, E15], [], (hset H i1 o2 [((.own 1), .sl 1 (List.map (eI .u32) x4.words_)), (.top, .junk), ((.own 1), .sl 2 (List.map e_api_Segment x4.marks_.list_)), ((.own 1), .sl 1 (List.map (eI .i64) x4.pads_)), ((.own 1), .sl 1 (List.map (eI .i64) x4.active_)), (.top, .int .i64 x4.depth_), (.top, .int .i64 x4.most_), (.top, .int .i64 x4.err_)])⟩ (yc (some 16) true false S37 (len_emit_Code_Here (H := (hset H i1 o2 [((.own 1), .sl 1 (List.map (eI .u32) x4.words_)), (.top, .junk), ((.own 1), .sl 2 (List.map e_api_Segment x4.marks_.list_)), ((.own 1), .sl 1 (List.map (eI .i64) x4.pads_)), ((.own 1), .sl 1 (List.map (eI .i64) x4.active_)), (.top, .int .i64 x4.depth_), (.top, .int .i64 x4.most_), (.top, .int .i64 x4.err_)])) (hset_get V5 rfl))) ?_
  refine yqt S38 ?_
  refine yql S39 ?_
  refine q_last S40 (st_app (X := X) S41 32 h7 128 128 135 4 0 (List.replicate 4 (.top, .int .i64 0)) (.own 1) e_api_Fixup 0 (some 22) (by kernel_rfl) (by kernel_rfl) (by kernel_rfl) (by kernel_rfl) (by kernel_rfl) (by kernel_rfl) (by kernel_rfl) (by kernel_rfl) (by kernel_rfl) (fun _ => rfl) (by kernel_rfl)) ?_
  refine yqt S42 ?_
  refine yqt S43 ?_
  refine q_last S36 (st_st (X := X) (lc := []) (h2 := (hset H i1 o2 [((.own 1), .sl 1 (List.map (eI .u32) x4.words_)), ((.own 1), .sl 4 (List.map e_api_Fixup v6)), ((.own 1), .sl 2 (List.map e_api_Segment x4.marks_.list_)), ((.own 1), .sl 1 (List.map (eI .i64) x4.pads_)), ((.own 1), .sl 1 (List.map (eI .i64) x4.active_)), (.top, .int .i64 x4.depth_), (.top, .int .i64 x4.most_), (.top, .int .i64 x4.err_)])) S44 128 (hset_get V5 rfl) 1 1 (.one (.own 1) (.sl 4 (List.map e_api_Fixup v6))) (by kernel_rfl) (by kernel_rfl) (by kernel_rfl) (by kernel_rfl) (by kernel_rfl) (by kernel_rfl) (hset_sub V5 rfl (Nat.le_of_ble_eq_true rfl)) (by kernel_rfl)) ?_
  exact yqe
  refine q_last ⟨[E6, E2, E3, E4, E5, E8, E9, E10, E11, E12, E17, E13, E14, E15], [], H⟩ (yc (some 16) true false S35 (len_emit_Code_Here (H := H) V5)) ?_
  refine yqt S45 ?_
  refine q_alt S38 (st_ldT (X := X) (h2 := (hset H i1 o2 [((.own 1), .sl 1 (List.map (eI .u32) x4.words_)), (.top, .junk), ((.own 1), .sl 2 (List.map e_api_Segment x4.marks_.list_)), ((.own 1), .sl 1 (List.map (eI .i64) x4.pads_)), ((.own 1), .sl 1 (List.map (eI .i64) x4.active_)), (.top, .int .i64 x4.depth_), (.top, .int .i64 x4.most_), (.top, .int .i64 x4.err_)])) S45 128 V5 1 1 false (.one (.own 1) (.sl 4 (List.map e_api_Fixup x4.fixups_))) (some 14) (by kernel_rfl) (by kernel_rfl) (by kernel_rfl) (by kernel_rfl) (by kernel_rfl) (hset_sub0 V5 (Nat.le_of_ble_eq_true rfl)) (by kernel_rfl)) ?_ ?_
  refine yql S39 ?_
  refine q_last S40 (st_app (X := X) S41 32 h7 128 128 135 4 0 (List.replicate 4 (.top, .int .i64 0)) (.own 1) e_api_Fixup 0 (some 22) (by kernel_rfl) (by kernel_rfl) (by kernel_rfl) (by kernel_rfl) (by kernel_rfl) (by kernel_rfl) (by kernel_rfl) (by kernel_rfl) (by kernel_rfl) (fun _ => rfl) (by kernel_rfl)) ?_
  refine yqt S42 ?_
  refine yqt S43 ?_
  refine q_last S36 (st_st (X := X) (lc := []) (h2 := (hset H i1 o2 [((.own 1), .sl 1 (List.map (eI .u32) x4.words_)), ((.own 1), .sl 4 (List.map e_api_Fixup v6)), ((.own 1), .sl 2 (List.map e_api_Segment x4.marks_.list_)), ((.own 1), .sl 1 (List.map (eI .i64) x4.pads_)), ((.own 1), .sl 1 (List.map (eI .i64) x4.active_)), (.top, .int .i64 x4.depth_), (.top, .int .i64 x4.most_), (.top, .int .i64 x4.err_)])) S44 128 (hset_get V5 rfl) 1 1 (.one (.own 1) (.sl 4 (List.map e_api_Fixup v6))) (by kernel_rfl) (by kernel_rfl) (by kernel_rfl) (by kernel_rfl) (by kernel_rfl) (by kernel_rfl) (hset_sub V5 rfl (Nat.le_of_ble_eq_true rfl)) (by kernel_rfl)) ?_
  exact yqe
  refine yql S46 ?_
  refine q_last S39 (st_ldT (X := X) (h2 := (hset H i1 o2 [((.own 1), .sl 1 (List.map (eI .u32) x4.words_)), (.top, .junk), ((.own 1), .sl 2 (List.map e_api_Segment x4.marks_.list_)), ((.own 1), .sl 1 (List.map (eI .i64) x4.pads_)), ((.own 1), .sl 1 (List.map (eI .i64) x4.active_)), (.top, .int .i64 x4.depth_), (.top, .int .i64 x4.most_), (.top, .int .i64 x4.err_)])) S46 128 V5 1 1 false (.one (.own 1) (.sl 4 (List.map e_api_Fixup x4.fixups_))) (some 14) (by kernel_rfl) (by kernel_rfl) (by kernel_rfl) (by kernel_rfl) (by kernel_rfl) (hset_sub0 V5 (Nat.le_of_ble_eq_true rfl)) (by kernel_rfl)) ?_
  refine q_last S40 (st_app (X := X) S41 32 h7 128 128 135 4 0 (List.replicate 4 (.top, .int .i64 0)) (.own 1) e_api_Fixup 0 (some 22) (by kernel_rfl) (by kernel_rfl) (by kernel_rfl) (by kernel_rfl) (by kernel_rfl) (by kernel_rfl) (by kernel_rfl) (by kernel_rfl) (by kernel_rfl) (fun _ => rfl) (by kernel_rfl)) ?_
  refine yqt S42 ?_
  refine yqt S43 ?_
  refine q_last S36 (st_st (X := X) (lc := []) (h2 := (hset H i1 o2 [((.own 1), .sl 1 (List.map (eI .u32) x4.words_)), ((.own 1), .sl 4 (List.map e_api_Fixup v6)), ((.own 1), .sl 2 (List.map e_api_Segment x4.marks_.list_)), ((.own 1), .sl 1 (List.map (eI .i64) x4.pads_)), ((.own 1), .sl 1 (List.map (eI .i64) x4.active_)), (.top, .int .i64 x4.depth_), (.top, .int .i64 x4.most_), (.top, .int .i64 x4.err_)])) S44 128 (hset_get V5 rfl) 1 1 (.one (.own 1) (.sl 4 (List.map e_api_Fixup v6))) (by kernel_rfl) (by kernel_rfl) (by kernel_rfl) (by kernel_rfl) (by kernel_rfl) (by kernel_rfl) (hset_sub V5 rfl (Nat.le_of_ble_eq_true rfl)) (by kernel_rfl)) ?_
  exact yqe
  refine eq_via (congrArg (fun q => (⟨[E6, E2, E3, E4, E5, E8, E9, E10, E11, E16, E12, E17, E13, E14, E15, E18, E19, E20, E21, E22], [], q⟩ : St)) h9) ?_
  kernel_rfl
  refine w_seq ?_
  refine ysg ⟨[E6, E5, (26, .one .top (.bool (p1 == 3)))], [], H8⟩ ?_
  rcases if_inv hF with ⟨h11, hF⟩ | ⟨h11, hF⟩
  refine yT h11 ⟨[E6], [], H8⟩ ?_
  refine w_seq ?_
  obtain ⟨H14, r12, c13, hF⟩ := bind2_inv hF
  refine w_regO ⟨[], [], H14⟩ ?_ ?_
  refine yr 2 S47 ?_
  refine o_one ⟨[E6, E26, E27, (29, .one .top (.int .i64 r12))], [], H14⟩ (yc (some 29) false false S47 (ok_emit_Code_Put H8 c13)) ?_
  exact ye
  refine w_ret ?_
  obtain e0 := some1_inv hF
  subst e0
  exact yi (.tup [])
  refine yF h11 ⟨[E6, E5], [], H8⟩ ?_
  refine w_skip ?_
  refine w_seq ?_
  obtain ⟨H17, r15, c16, hF⟩ := bind2_inv hF
  let S49 : St := ⟨[E6, E5, E31, E32, E33, E34], [], H17⟩
  refine w_regO ⟨[E6, E5], [], H17⟩ ?_ ?_
  refine yr 3 S48 ?_
  refine o_one ⟨[E6, E5, E28, E29, E30, (33, .one .top (.int .i64 r15))], [], H17⟩ (yc (some 33) false false S48 (ok_emit_Code_Put H8 c16)) ?_
  exact ye
  obtain ⟨H20, r18, c19, hF⟩ := bind2_inv hF
  refine w_regO ⟨[], [], H20⟩ ?_ ?_
  refine yr 4 S49 ?_
  refine o_one ⟨[E6, E5, E31, E32, E33, E34, (38, .one .top (.int .i64 r18))], [], H20⟩ (yc (some 38) false false S49 (ok_emit_Code_Put H17 c19)) ?_
  exact ye
  obtain e0 := some1_inv hF
  subst e0
  exact yi (.tup [])
noncomputable def item_Gen_Base_L1 (p1 : Int) (i1 : Nat) (o2 : Nat) (a15 : Int) (H16 : Heap) : Option ((Int × Heap) ⊕ ((Heap))) :=
  if (decide (a15 > p1)) = true then (bind1 (get_item_Gen H16 i1 o2) fun x18 =>
  bind2 (emit_Code_Sign H16 x18.Code_ 18 0 0 8) fun H22 r20 =>
  some (Sum.inl ((IntKind.wrap .i64 (a15 - 1)), H22)))
  else (some (Sum.inr H16))
noncomputable def item_Gen_Base (H : Heap) (p0 : Ptr) (p1 : Int) : Option (Heap) :=
  (p0).bnd fun i1 o2 =>
  bind1 (get_item_Gen H i1 o2) fun x4 =>
  if (decide (p1 ≥ x4.Level_)) = true then (bind2 (emit_Code_Sign H x4.Code_ 5 0 13 0) fun H9 r7 =>
  some H9)
  else (bind2 (emit_Code_Sign H x4.Code_ 18 0 13 8) fun H12 r10 =>
  bind1 (get_item_Gen H12 i1 o2) fun x13 =>
  bind1 (loopO (fun (x : (Int × Heap)) => item_Gen_Base_L1 p1 i1 o2 x.1 x.2) ((IntKind.wrap .i64 (x13.Level_ - 1)), H12)) (fun H25 =>
  some H25))
theorem ok_item_Gen_Base (H : Heap) {p0 : Ptr} {p1 : Int} {Hr : Heap} (hF : item_Gen_Base H p0 p1 = some Hr) : evS X 78 [.one .top (Ptr.av p0), .one .top (.int .i64 p1)] H = some (.tup [], Hr) := by
  let E1 : EN := (1, .one .top (.int .i64 p1))
  let E4 : EN := (5, .one .top (.int .i64 p1))
  refine yf Try.func78 false ⟨[(0, .one .top (Ptr.av p0)), E1], [], H⟩ ?_
  unfold item_Gen_Base at hF
  refine w_seq ?_
  refine w_seq ?_
  obtain ⟨i1, o2, h3, hF⟩ := pbnd_inv hF
  let E2 : EN := (0, .one .top (.obj i1 o2))
  let E5 : EN := (6, .one .top (.obj i1 o2))
  let E6 : EN := (7, .one .top (.obj i1 o2))
  let E7 : EN := (8, .one .top (.obj i1 (o2 + 1)))
  let E9 : EN := (11, .one .top (.obj i1 o2))
  let E10 : EN := (12, .one .top (.obj i1 o2))
  let E11 : EN := (13, .one .top (.obj i1 o2))
  let E12 : EN := (16, .one .top (.obj i1 o2))
  let E13 : EN := (17, .one .top (.obj i1 o2))
  let E14 : EN := (18, .one .top (.obj i1 o2))
  let E16 : EN := (21, .one .top (.obj i1 o2))
  let E17 : EN := (22, .one .top (.obj i1 o2))
  let E18 : EN := (23, .one .top (.obj i1 (o2 + 1)))
  let E21 : EN := (31, .one .top (.obj i1 o2))
  let E22 : EN := (32, .one .top (.obj i1 o2))
  let E23 : EN := (33, .one .top (.obj i1 o2))
  let S24 : St := ⟨[E2, E1, E4, E5, E6, E7], [], H⟩
  let S25 : St := ⟨[E2, E9, E10, E11], [], H⟩
  let S26 : St := ⟨[E2, E1, E12, E13, E14], [], H⟩
  obtain ⟨x4, V5, hF⟩ := bind1_inv hF
  replace V5 := hgetT_inv V5
  let E3 : EN := (10, .one .top (.bool (decide (p1 ≥ x4.Level_))))
  let E8 : EN := (9, .one .top (.int .i64 x4.Level_))
  refine w_regO ⟨[E2, E1, E3], [], H⟩ ?_ ?_
  refine yr 2 ⟨[(0, .one .top (Ptr.av p0)), E1, E4, (6, .one .top (Ptr.av p0))], [], H⟩ ?_ (h := (by generalize p0 = qp0; cases qp0 <;> kernel_rfl))
  refine o_eq (congrArg (fun q => (⟨[(0, .one .top (Ptr.av q)), E1, E4, (6, .one .top (Ptr.av q))], [], H⟩ : St)) h3) ?_
  refine yr 1 ⟨[E2, E1, E4, E5, E6], [], H⟩ ?_
  refine yr 1 S24 ?_ (h := (by generalize x4.Code_ = qp0; generalize x4.Proc_.frame_ = qp1; cases qp0 <;> cases qp1 <;> kernel_rfl))
  refine o_one ⟨[E2, E1, E4, E5, E6, E7, E8], [], H⟩ (yd (X := X) S24 3 V5 1 1 false (.one .top (.int .i64 x4.Level_)) (some 9) (hs := (by generalize x4.Code_ = qp0; generalize x4.Proc_.frame_ = qp1; cases qp0 <;> cases qp1 <;> kernel_rfl))) ?_
  refine yr 1 ⟨[E2, E1, E4, E5, E6, E7, E8, E3], [], H⟩ ?_ (h := (by generalize x4.Code_ = qp0; generalize x4.Proc_.frame_ = qp1; cases qp0 <;> cases qp1 <;> kernel_rfl))
  exact ye
  rcases if_inv hF with ⟨h6, hF⟩ | ⟨h6, hF⟩
  refine yT h6 ⟨[E2], [], H⟩ ?_
  refine w_seq ?_
  obtain ⟨H9, r7, c8, hF⟩ := bind2_inv hF
  refine w_regO ⟨[], [], H9⟩ ?_ ?_
  refine yr 3 S25 ?_ (h := (by generalize x4.Code_ = qp0; generalize x4.Proc_.frame_ = qp1; cases qp0 <;> cases qp1 <;> kernel_rfl))
  refine o_one ⟨[E2, E9, E10, E11, (14, .one .top (Ptr.av x4.Code_))], [], H⟩ (yd (X := X) S25 26 V5 0 1 false (.one .top (Ptr.av x4.Code_)) (some 14) (hs := (by generalize x4.Code_ = qp0; generalize x4.Proc_.frame_ = qp1; cases qp0 <;> cases qp1 <;> kernel_rfl))) ?_
  refine o_one ⟨[E2, E9, E10, E11, (14, .one .top (Ptr.av x4.Code_)), (15, .one .top (.int .i64 r7))], [], H9⟩ (st_call (d := (some 15)) (fz := false) (pure := false) (own := false) (⟨[E2, E9, E10, E11, (14, .one .top (Ptr.av x4.Code_))], [], H⟩ : St) (ok_emit_Code_Sign H c8) (by generalize x4.Code_ = qp0; generalize x4.Proc_.frame_ = qp1; cases qp0 <;> cases qp1 <;> kernel_rfl) (by generalize x4.Code_ = qp0; generalize x4.Proc_.frame_ = qp1; cases qp0 <;> cases qp1 <;> kernel_rfl)) ?_
  exact ye
  refine w_ret ?_
  obtain e0 := some1_inv hF
  subst e0
  exact yi (.tup [])
  refine yF h6 ⟨[E2, E1], [], H⟩ ?_
  refine w_skip ?_
  refine w_seq ?_
  obtain ⟨H12, r10, c11, hF⟩ := bind2_inv hF
  let S27 : St := ⟨[E2, E1, E16, E17, E18], [], H12⟩
  refine w_regO ⟨[E2, E1], [], H12⟩ ?_ ?_
  refine yr 3 S26 ?_ (h := (by generalize x4.Code_ = qp0; generalize x4.Proc_.frame_ = qp1; cases qp0 <;> cases qp1 <;> kernel_rfl))
  refine o_one ⟨[E2, E1, E12, E13, E14, (19, .one .top (Ptr.av x4.Code_))], [], H⟩ (yd (X := X) S26 26 V5 0 1 false (.one .top (Ptr.av x4.Code_)) (some 19) (hs := (by generalize x4.Code_ = qp0; generalize x4.Proc_.frame_ = qp1; cases qp0 <;> cases qp1 <;> kernel_rfl))) ?_
  refine o_one ⟨[E2, E1, E12, E13, E14, (19, .one .top (Ptr.av x4.Code_)), (20, .one .top (.int .i64 r10))], [], H12⟩ (st_call (d := (some 20)) (fz := false) (pure := false) (own := false) (⟨[E2, E1, E12, E13, E14, (19, .one .top (Ptr.av x4.Code_))], [], H⟩ : St) (ok_emit_Code_Sign H c11) (by generalize x4.Code_ = qp0; generalize x4.Proc_.frame_ = qp1; cases qp0 <;> cases qp1 <;> kernel_rfl) (by generalize x4.Code_ = qp0; generalize x4.Proc_.frame_ = qp1; cases qp0 <;> cases qp1 <;> kernel_rfl)) ?_
  exact ye
  refine w_seq ?_
  obtain ⟨x13, V14, hF⟩ := bind1_inv hF
  replace V14 := hgetT_inv V14
  let E15 : EN := (4, .one .top (.int .i64 (IntKind.wrap .i64 (x13.Level_ - 1))))
  let E19 : EN := (24, .one .top (.int .i64 x13.Level_))
  refine w_regO ⟨[E2, E1, E15], [], H12⟩ ?_ ?_
  refine yr 2 ⟨[E2, E1, E16, E17], [], H12⟩ ?_
  refine yr 1 S27 ?_ (h := (by generalize x13.Code_ = qp0; generalize x13.Proc_.frame_ = qp1; cases qp0 <;> cases qp1 <;> kernel_rfl))
  refine o_one ⟨[E2, E1, E16, E17, E18, E19], [], H12⟩ (yd (X := X) S27 3 V14 1 1 false (.one .top (.int .i64 x13.Level_)) (some 24) (hs := (by generalize x13.Code_ = qp0; generalize x13.Proc_.frame_ = qp1; cases qp0 <;> cases qp1 <;> kernel_rfl))) ?_
  refine yr 2 ⟨[E2, E1, E15, E16, E17, E18, E19, (25, .one .top (.int .i64 (IntKind.wrap .i64 (x13.Level_ - 1))))], [], H12⟩ ?_ (h := (by generalize x13.Code_ = qp0; generalize x13.Proc_.frame_ = qp1; cases qp0 <;> cases qp1 <;> kernel_rfl))
  exact ye
  refine w_block ?_
  obtain ⟨r23, hL24, hF⟩ := bind1_inv hF
  refine w_loop (fun (x : (Int × Heap)) => (⟨[E2, E1, (4, .one .top (.int .i64 x.1))], [], x.2⟩ : St)) (fun (y : (Heap)) => ((.exit 0, (⟨[], [], y⟩ : St)) : Ex × St)) hL24 (by kernel_rfl) ?_ ?_
  rintro ⟨a15, H16⟩ o hF
  replace hF : item_Gen_Base_L1 p1 i1 o2 a15 H16 = some o := hF
  let E20 : EN := (4, .one .top (.int .i64 a15))
  let S28 : St := ⟨[E2, E1, E20, E21, E22, E23], [], H16⟩
  unfold item_Gen_Base_L1 at hF
  refine w_seq ?_
  refine ysg ⟨[E2, E1, E20, (28, .one .top (.bool (decide (a15 > p1))))], [], H16⟩ ?_
  rcases if_inv hF with ⟨h17, hF⟩ | ⟨h17, hF⟩
  refine yT h17 ⟨[E2, E1, E20], [], H16⟩ ?_
  refine w_skip ?_
  refine w_seq ?_
  refine w_block ?_
  obtain ⟨x18, V19, hF⟩ := bind1_inv hF
  replace V19 := hgetT_inv V19
  obtain ⟨H22, r20, c21, hF⟩ := bind2_inv hF
  refine w_regO ⟨[E2, E1, E20], [], H22⟩ ?_ ?_
  refine yr 2 ⟨[E2, E1, E20, E21, E22], [], H16⟩ ?_
  refine yr 1 S28 ?_ (h := (by generalize x18.Code_ = qp0; generalize x18.Proc_.frame_ = qp1; cases qp0 <;> cases qp1 <;> kernel_rfl))
  refine o_one ⟨[E2, E1, E20, E21, E22, E23, (34, .one .top (Ptr.av x18.Code_))], [], H16⟩ (yd (X := X) S28 26 V19 0 1 false (.one .top (Ptr.av x18.Code_)) (some 34) (hs := (by generalize x18.Code_ = qp0; generalize x18.Proc_.frame_ = qp1; cases qp0 <;> cases qp1 <;> kernel_rfl))) ?_
  refine o_one ⟨[E2, E1, E20, E21, E22, E23, (34, .one .top (Ptr.av x18.Code_)), (35, .one .top (.int .i64 r20))], [], H22⟩ (st_call (d := (some 35)) (fz := false) (pure := false) (own := false) (⟨[E2, E1, E20, E21, E22, E23, (34, .one .top (Ptr.av x18.Code_))], [], H16⟩ : St) (ok_emit_Code_Sign H16 c21) (by generalize x18.Code_ = qp0; generalize x18.Proc_.frame_ = qp1; cases qp0 <;> cases qp1 <;> kernel_rfl) (by generalize x18.Code_ = qp0; generalize x18.Proc_.frame_ = qp1; cases qp0 <;> cases qp1 <;> kernel_rfl)) ?_
  exact ye
  refine yg ⟨[E2, E1, (4, .one .top (.int .i64 (IntKind.wrap .i64 (a15 - 1))))], [], H22⟩ ?_
  cases hF
  exact ⟨_, rfl, (by kernel_rfl)⟩
  refine yF h17 ⟨[], [], H16⟩ ?_
  refine w_exit ?_
  cases hF
  exact ⟨_, rfl, (by kernel_rfl)⟩
  obtain ⟨H25, hy⟩ : ∃ y, y = r23 := ⟨_, rfl⟩
  subst hy
  refine w_oe (i := 0) (s := (⟨[], [], H25⟩ : St)) (by kernel_rfl) ?_
  refine e_here ?_
  obtain e0 := some1_inv hF
  subst e0
  exact yi (.tup [])
noncomputable def item_Gen_Address_j1 (H3 : Heap) : Option (Heap × Int) :=
  some (H3, 0)
noncomputable def item_Gen_Address_j2 (H13 : Heap) : Option (Heap × Int) :=
  item_Gen_Address_j1 H13
noncomputable def item_Gen_Address (H : Heap) (p0 : Ptr) (p1 : T_scope_Object) : Option (Heap × Int) :=
  if ((p1.Kind_ == 3) && ((p1.Level_ == 0) || (decide (p1.Module_ > 0)))) = true then ((p0).bnd fun i5 o6 =>
  bind1 (get_item_Gen H i5 o6) fun x8 =>
  bind1 (emit_Code_Fix H x8.Code_ 1 p1.Module_ (IntKind.wrap .i64 p1.N_) 0) fun H11 =>
  item_Gen_Address_j1 H11)
  else (if ((p1.Kind_ == 3) || (p1.Kind_ == 4)) = true then (bind1 (item_Gen_Base H p0 p1.Level_) fun H16 =>
  (p0).bnd fun i17 o18 =>
  bind1 (get_item_Gen H16 i17 o18) fun x20 =>
  bind2 (emit_Code_Sign H16 x20.Code_ 5 0 0 (IntKind.wrap .i64 p1.N_)) fun H24 r22 =>
  item_Gen_Address_j2 H24)
  else (if (p1.Kind_ == 5) = true then (bind1 (item_Gen_Base H p0 p1.Level_) fun H27 =>
  (p0).bnd fun i28 o29 =>
  bind1 (get_item_Gen H27 i28 o29) fun x31 =>
  bind2 (emit_Code_Sign H27 x31.Code_ 18 0 0 (IntKind.wrap .i64 p1.N_)) fun H35 r33 =>
  item_Gen_Address_j2 H35)
  else (some (H, 111))))
theorem ok_item_Gen_Address (H : Heap) {p0 : Ptr} {p1 : T_scope_Object} {ra : Int} {Hr : Heap} (hF : item_Gen_Address H p0 p1 = some (Hr, ra)) : evS X 35 [.one .top (Ptr.av p0), .agg (m0_scope_Object p1)] H = some (.one .top (.int .i64 ra), Hr) := by
  let E1 : Ptr → EN := fun z0 => (0, .one .top (Ptr.av z0))
  let E2 : EN := (3, .one .top (.loc 3 0))
  let B3 : EB := (3, (m0_scope_Object p1))
  let E4 : EN := (6, .one .top (.loc 3 1))
  let E5 : EN := (7, .one .top (.int .i64 p1.Kind_))
  let E6 : EN := (8, .one .top (.bool true))
  let E7 : EN := (9, .one .top (.bool true))
  let E8 : EN := (10, .one .top (.loc 3 3))
  let E9 : EN := (11, .one .top (.int .i64 p1.Level_))
  let E14 : EN := (23, .one .top (.loc 3 5))
  let E15 : EN := (24, .one .top (.int .i64 p1.Module_))
  let E16 : EN := (25, .one .top (.loc 3 4))
  let E17 : EN := (26, .one .top (.int .i32 p1.N_))
  let E18 : EN := (27, .one .top (.int .i64 (IntKind.wrap .i64 p1.N_)))
  let E19 : EN := (30, .one .top (.loc 3 1))
  let E20 : EN := (31, .one .top (.int .i64 p1.Kind_))
  let E21 : Ptr → EN := fun z0 => (38, .one .top (Ptr.av z0))
  let E22 : EN := (39, .one .top (.loc 3 3))
  let E23 : EN := (40, .one .top (.int .i64 p1.Level_))
  let E28 : EN := (46, .one .top (.loc 3 4))
  let E29 : EN := (47, .one .top (.int .i32 p1.N_))
  let E30 : EN := (48, .one .top (.int .i64 (IntKind.wrap .i64 p1.N_)))
  let E31 : Ptr → EN := fun z0 => (54, .one .top (Ptr.av z0))
  let E32 : EN := (55, .one .top (.loc 3 3))
  let E33 : EN := (56, .one .top (.int .i64 p1.Level_))
  let E38 : EN := (62, .one .top (.loc 3 4))
  let E39 : EN := (63, .one .top (.int .i32 p1.N_))
  let E40 : EN := (64, .one .top (.int .i64 (IntKind.wrap .i64 p1.N_)))
  let S41 : Ptr → St := fun z0 => ⟨[(E1 z0), E2], [B3], H⟩
  let S43 : Ptr → St := fun z0 => ⟨[(E1 z0), E2, (E21 z0), E22, E23], [B3], H⟩
  let S45 : Ptr → St := fun z0 => ⟨[(E1 z0), E2, (E31 z0), E32, E33], [B3], H⟩
  refine yf Try.func35 false ⟨[(E1 p0), (1, .agg (m0_scope_Object p1))], [], H⟩ ?_
  unfold item_Gen_Address at hF
  refine ysg (S41 p0) ?_ (h := (by generalize p0 = qp0; cases qp0 <;> kernel_rfl))
  refine w_seq ?_
  refine w_block ?_
  refine yso ⟨[(E1 p0), E2, (5, .one .top (.bool ((p1.Kind_ == 3) && ((p1.Level_ == 0) || (decide (p1.Module_ > 0))))))], [B3], H⟩ ?_ ?_
  refine yr 4 ⟨[(E1 p0), E2, E4, E5, (8, .one .top (.bool (p1.Kind_ == 3))), (9, .one .top (.bool (p1.Kind_ == 3)))], [B3], H⟩ ?_ (h := (by generalize p0 = qp0; cases qp0 <;> kernel_rfl))
  rcases bool_cases (p1.Kind_ == 3) with h1 | h1
  refine o_eq (congrArg (fun q => (⟨[(E1 p0), E2, E4, E5, (8, .one .top (.bool q)), (9, .one .top (.bool q))], [B3], H⟩ : St)) h1) ?_
  refine yr 4 ⟨[(E1 p0), E2, E4, E5, E6, E7, E8, E9, (12, .one .top (.bool (p1.Level_ == 0))), (13, .one .top (.bool (p1.Level_ == 0)))], [B3], H⟩ ?_ (h := (by generalize p0 = qp0; cases qp0 <;> kernel_rfl))
  rcases bool_cases (p1.Level_ == 0) with h2 | h2
  refine o_eq (congrArg (fun q => (⟨[(E1 p0), E2, E4, E5, E6, E7, E8, E9, (12, .one .top (.bool q)), (13, .one .top (.bool q))], [B3], H⟩ : St)) h2) ?_
  refine yr 6 ⟨[(E1 p0), E2, (5, .one .top (.bool true)), E4, E5, E6, E7, E8, E9, (12, .one .top (.bool true)), (13, .one .top (.bool true)), (14, .tup []), (15, .tup []), (16, .tup []), (17, .one .top (.bool true)), (18, .one .top (.bool true))], [B3], H⟩ ?_ (h := (by generalize p0 = qp0; cases qp0 <;> kernel_rfl))
  refine o_eq2 (congrArg (fun q0 => (⟨[(E1 p0), E2, (5, .one .top (.bool q0))], [B3], H⟩ : St)) (show true = ((p1.Kind_ == 3) && ((p1.Level_ == 0) || (decide (p1.Module_ > 0)))) by simp [h1, h2])) ?_
  exact ye
  refine o_eq (congrArg (fun q => (⟨[(E1 p0), E2, E4, E5, E6, E7, E8, E9, (12, .one .top (.bool q)), (13, .one .top (.bool q))], [B3], H⟩ : St)) h2) ?_
  refine yr 6 ⟨[(E1 p0), E2, (5, .one .top (.bool (decide (p1.Module_ > 0)))), E4, E5, E6, E7, E8, E9, (12, .one .top (.bool false)), (13, .one .top (.bool false)), (14, .one .top (.loc 3 5)), (15, .one .top (.int .i64 p1.Module_)), (16, .one .top (.bool (decide (p1.Module_ > 0)))), (17, .one .top (.bool (decide (p1.Module_ > 0)))), (18, .one .top (.bool (decide (p1.Module_ > 0))))], [B3], H⟩ ?_ (h := (by generalize p0 = qp0; cases qp0 <;> kernel_rfl))
  refine o_eq2 (congrArg (fun q0 => (⟨[(E1 p0), E2, (5, .one .top (.bool q0))], [B3], H⟩ : St)) (show (decide (p1.Module_ > 0)) = ((p1.Kind_ == 3) && ((p1.Level_ == 0) || (decide (p1.Module_ > 0)))) by simp [h1, h2])) ?_
  exact ye
  refine o_eq (congrArg (fun q => (⟨[(E1 p0), E2, E4, E5, (8, .one .top (.bool q)), (9, .one .top (.bool q))], [B3], H⟩ : St)) h1) ?_
  refine yr 10 ⟨[(E1 p0), E2, (5, .one .top (.bool false)), E4, E5, (8, .one .top (.bool false)), (9, .one .top (.bool false)), (10, .tup []), (11, .tup []), (12, .tup []), (13, .tup []), (14, .tup []), (15, .tup []), (16, .tup []), (17, .tup []), (18, .one .top (.bool false))], [B3], H⟩ ?_ (h := (by generalize p0 = qp0; cases qp0 <;> kernel_rfl))
  refine o_eq2 (congrArg (fun q0 => (⟨[(E1 p0), E2, (5, .one .top (.bool q0))], [B3], H⟩ : St)) (show false = ((p1.Kind_ == 3) && ((p1.Level_ == 0) || (decide (p1.Module_ > 0)))) by simp [h1])) ?_
  exact ye
  refine w_join (α := (Heap)) (fun x => (⟨[], [], x⟩ : St)) (fun x => item_Gen_Address_j1 x = some (Hr, ra)) ?_ ?_
  rintro H3 hF
  replace hF : item_Gen_Address_j1 H3 = some (Hr, ra) := hF
  unfold item_Gen_Address_j1 at hF
  refine ysg ⟨[(4, .one .top (.int .i64 0))], [], H3⟩ ?_
  refine w_ret ?_
  obtain ⟨e0, e1⟩ := some2_inv hF
  subst e0
  subst e1
  exact yi (.one .top (.int .i64 0))
  rcases if_inv hF with ⟨h4, hF⟩ | ⟨h4, hF⟩
  refine yT h4 (S41 p0) ?_
  obtain ⟨i5, o6, h7, hF⟩ := pbnd_inv hF
  let E10 : EN := (0, .one .top (.obj i5 o6))
  let E11 : EN := (19, .one .top (.obj i5 o6))
  let E12 : EN := (20, .one .top (.obj i5 o6))
  let E13 : EN := (21, .one .top (.obj i5 o6))
  let S42 : St := ⟨[E10, E2, E11, E12, E13, E14, E15, E16, E17, E18], [B3], H⟩
  obtain ⟨x8, V9, hF⟩ := bind1_inv hF
  replace V9 := hgetT_inv V9
  obtain ⟨H11, c10, hF⟩ := bind1_inv hF
  refine w_regD (.take 0 (.take 1 (.take 2 (.take 4 (.take 5 (.take 6 (.take 7 (.take 8 (.last 3 (.last 9 .done)))))))))) (by kernel_rfl) (⟨[], [], H11⟩ : St) ?_ ?_
  refine d_take ⟨[(E1 p0), E2, (19, .one .top (Ptr.av p0))], [B3], H⟩ (by generalize p0 = qp0; cases qp0 <;> kernel_rfl) ?_
  refine d_eq (congrArg (fun q => (⟨[(0, .one .top (Ptr.av q)), E2, (19, .one .top (Ptr.av q))], [B3], H⟩ : St)) h7) ?_
  refine ydt ⟨[E10, E2, E11, E12], [B3], H⟩ ?_
  refine d_take ⟨[E10, E2, E11, E12, E13], [B3], H⟩ (by generalize x8.Code_ = qp0; generalize x8.Proc_.frame_ = qp1; cases qp0 <;> cases qp1 <;> kernel_rfl) ?_
  refine d_take ⟨[E10, E2, E11, E12, E13, E14], [B3], H⟩ (by generalize x8.Code_ = qp0; generalize x8.Proc_.frame_ = qp1; cases qp0 <;> cases qp1 <;> kernel_rfl) ?_
  refine d_take ⟨[E10, E2, E11, E12, E13, E14, E15], [B3], H⟩ (by generalize x8.Code_ = qp0; generalize x8.Proc_.frame_ = qp1; cases qp0 <;> cases qp1 <;> kernel_rfl) ?_
  refine d_take ⟨[E10, E2, E11, E12, E13, E14, E15, E16], [B3], H⟩ (by generalize x8.Code_ = qp0; generalize x8.Proc_.frame_ = qp1; cases qp0 <;> cases qp1 <;> kernel_rfl) ?_
  refine d_take ⟨[E10, E2, E11, E12, E13, E14, E15, E16, E17], [B3], H⟩ (by generalize x8.Code_ = qp0; generalize x8.Proc_.frame_ = qp1; cases qp0 <;> cases qp1 <;> kernel_rfl) ?_
  refine d_take S42 (by generalize x8.Code_ = qp0; generalize x8.Proc_.frame_ = qp1; cases qp0 <;> cases qp1 <;> kernel_rfl) ?_
  refine d_last ⟨[E10, E2, E11, E12, E13, (22, .one .top (Ptr.av x8.Code_)), E14, E15, E16, E17, E18], [B3], H⟩ (yd (X := X) S42 26 V9 0 1 false (.one .top (Ptr.av x8.Code_)) (some 22) (hs := (by generalize x8.Code_ = qp0; generalize x8.Proc_.frame_ = qp1; cases qp0 <;> cases qp1 <;> kernel_rfl))) ?_
  refine d_last ⟨[E10, E2, E11, E12, E13, (22, .one .top (Ptr.av x8.Code_)), E14, E15, E16, E17, E18, (28, .tup [])], [B3], H11⟩ (st_call (d := (some 28)) (fz := false) (pure := false) (own := false) (⟨[E10, E2, E11, E12, E13, (22, .one .top (Ptr.av x8.Code_)), E14, E15, E16, E17, E18], [B3], H⟩ : St) (ok_emit_Code_Fix H c10) (by generalize x8.Code_ = qp0; generalize x8.Proc_.frame_ = qp1; cases qp0 <;> cases qp1 <;> kernel_rfl) (by generalize x8.Code_ = qp0; generalize x8.Proc_.frame_ = qp1; cases qp0 <;> cases qp1 <;> kernel_rfl)) ?_
  exact yde
  exact ⟨H11, hF, (by kernel_rfl)⟩
  refine yF h4 (S41 p0) ?_
  refine yso ⟨[(E1 p0), E2, (29, .one .top (.bool ((p1.Kind_ == 3) || (p1.Kind_ == 4))))], [B3], H⟩ ?_ ?_
  refine yr 4 ⟨[(E1 p0), E2, E19, E20, (32, .one .top (.bool (p1.Kind_ == 3))), (33, .one .top (.bool (p1.Kind_ == 3)))], [B3], H⟩ ?_ (h := (by generalize p0 = qp0; cases qp0 <;> kernel_rfl))
  rcases bool_cases (p1.Kind_ == 3) with h12 | h12
  refine o_eq (congrArg (fun q => (⟨[(E1 p0), E2, E19, E20, (32, .one .top (.bool q)), (33, .one .top (.bool q))], [B3], H⟩ : St)) h12) ?_
  refine yr 5 ⟨[(E1 p0), E2, (29, .one .top (.bool true)), E19, E20, (32, .one .top (.bool true)), (33, .one .top (.bool true)), (34, .tup []), (35, .tup []), (36, .tup []), (37, .one .top (.bool true))], [B3], H⟩ ?_ (h := (by generalize p0 = qp0; cases qp0 <;> kernel_rfl))
  refine o_eq2 (congrArg (fun q0 => (⟨[(E1 p0), E2, (29, .one .top (.bool q0))], [B3], H⟩ : St)) (show true = ((p1.Kind_ == 3) || (p1.Kind_ == 4)) by simp [h12])) ?_
  exact ye
  refine o_eq (congrArg (fun q => (⟨[(E1 p0), E2, E19, E20, (32, .one .top (.bool q)), (33, .one .top (.bool q))], [B3], H⟩ : St)) h12) ?_
  refine yr 5 ⟨[(E1 p0), E2, (29, .one .top (.bool (p1.Kind_ == 4))), E19, E20, (32, .one .top (.bool false)), (33, .one .top (.bool false)), (34, .one .top (.loc 3 1)), (35, .one .top (.int .i64 p1.Kind_)), (36, .one .top (.bool (p1.Kind_ == 4))), (37, .one .top (.bool (p1.Kind_ == 4)))], [B3], H⟩ ?_ (h := (by generalize p0 = qp0; cases qp0 <;> kernel_rfl))
  refine o_eq2 (congrArg (fun q0 => (⟨[(E1 p0), E2, (29, .one .top (.bool q0))], [B3], H⟩ : St)) (show (p1.Kind_ == 4) = ((p1.Kind_ == 3) || (p1.Kind_ == 4)) by simp [h12])) ?_
  exact ye
  refine w_join (α := (Heap)) (fun x => (⟨[], [], x⟩ : St)) (fun x => item_Gen_Address_j2 x = some (Hr, ra)) ?_ ?_
  rintro H13 hF
  replace hF : item_Gen_Address_j2 H13 = some (Hr, ra) := hF
  unfold item_Gen_Address_j2 at hF
  exact ⟨H13, hF, (by kernel_rfl)⟩
  rcases if_inv hF with ⟨h14, hF⟩ | ⟨h14, hF⟩
  refine yT h14 (S41 p0) ?_
  refine w_seq ?_
  obtain ⟨H16, c15, hF⟩ := bind1_inv hF
  refine w_regO ⟨[(E1 p0), E2], [B3], H16⟩ ?_ ?_
  refine yr 3 (S43 p0) ?_ (h := (by generalize p0 = qp0; cases qp0 <;> kernel_rfl))
  refine o_one ⟨[(E1 p0), E2, (E21 p0), E22, E23, (41, .tup [])], [B3], H16⟩ (st_call (d := (some 41)) (fz := false) (pure := false) (own := false) (S43 p0) (ok_item_Gen_Base H c15) (by generalize p0 = qp0; cases qp0 <;> kernel_rfl) (by generalize p0 = qp0; cases qp0 <;> kernel_rfl)) ?_
  exact ye
  obtain ⟨i17, o18, h19, hF⟩ := pbnd_inv hF
  let E24 : EN := (0, .one .top (.obj i17 o18))
  let E25 : EN := (42, .one .top (.obj i17 o18))
  let E26 : EN := (43, .one .top (.obj i17 o18))
  let E27 : EN := (44, .one .top (.obj i17 o18))
  let S44 : St := ⟨[E24, E2, E25, E26, E27, E28, E29, E30], [B3], H16⟩
  obtain ⟨x20, V21, hF⟩ := bind1_inv hF
  replace V21 := hgetT_inv V21
  obtain ⟨H24, r22, c23, hF⟩ := bind2_inv hF
  refine w_regD (.take 0 (.take 1 (.take 2 (.take 4 (.take 5 (.take 6 (.last 3 (.last 7 .done)))))))) (by kernel_rfl) (⟨[], [], H24⟩ : St) ?_ ?_
  refine d_take ⟨[(E1 p0), E2, (42, .one .top (Ptr.av p0))], [B3], H16⟩ (by generalize p0 = qp0; cases qp0 <;> kernel_rfl) ?_
  refine d_eq (congrArg (fun q => (⟨[(0, .one .top (Ptr.av q)), E2, (42, .one .top (Ptr.av q))], [B3], H16⟩ : St)) h19) ?_
  refine ydt ⟨[E24, E2, E25, E26], [B3], H16⟩ ?_
  refine d_take ⟨[E24, E2, E25, E26, E27], [B3], H16⟩ (by generalize x20.Code_ = qp0; generalize x20.Proc_.frame_ = qp1; cases qp0 <;> cases qp1 <;> kernel_rfl) ?_
  refine d_take ⟨[E24, E2, E25, E26, E27, E28], [B3], H16⟩ (by generalize x20.Code_ = qp0; generalize x20.Proc_.frame_ = qp1; cases qp0 <;> cases qp1 <;> kernel_rfl) ?_
  refine d_take ⟨[E24, E2, E25, E26, E27, E28, E29], [B3], H16⟩ (by generalize x20.Code_ = qp0; generalize x20.Proc_.frame_ = qp1; cases qp0 <;> cases qp1 <;> kernel_rfl) ?_
  refine d_take S44 (by generalize x20.Code_ = qp0; generalize x20.Proc_.frame_ = qp1; cases qp0 <;> cases qp1 <;> kernel_rfl) ?_
  refine d_last ⟨[E24, E2, E25, E26, E27, (45, .one .top (Ptr.av x20.Code_)), E28, E29, E30], [B3], H16⟩ (yd (X := X) S44 26 V21 0 1 false (.one .top (Ptr.av x20.Code_)) (some 45) (hs := (by generalize x20.Code_ = qp0; generalize x20.Proc_.frame_ = qp1; cases qp0 <;> cases qp1 <;> kernel_rfl))) ?_
  refine d_last ⟨[E24, E2, E25, E26, E27, (45, .one .top (Ptr.av x20.Code_)), E28, E29, E30, (49, .one .top (.int .i64 r22))], [B3], H24⟩ (st_call (d := (some 49)) (fz := false) (pure := false) (own := false) (⟨[E24, E2, E25, E26, E27, (45, .one .top (Ptr.av x20.Code_)), E28, E29, E30], [B3], H16⟩ : St) (ok_emit_Code_Sign H16 c23) (by generalize x20.Code_ = qp0; generalize x20.Proc_.frame_ = qp1; cases qp0 <;> cases qp1 <;> kernel_rfl) (by generalize x20.Code_ = qp0; generalize x20.Proc_.frame_ = qp1; cases qp0 <;> cases qp1 <;> kernel_rfl)) ?_
  exact yde
  exact ⟨H24, hF, (by kernel_rfl)⟩
  refine yF h14 (S41 p0) ?_
  refine ysg ⟨[(E1 p0), E2, (50, .one .top (.bool (p1.Kind_ == 5)))], [B3], H⟩ ?_ (h := (by generalize p0 = qp0; cases qp0 <;> kernel_rfl))
  rcases if_inv hF with ⟨h25, hF⟩ | ⟨h25, hF⟩
  refine yT h25 (S41 p0) ?_
  refine w_seq ?_
  obtain ⟨H27, c26, hF⟩ := bind1_inv hF
  refine w_regO ⟨[(E1 p0), E2], [B3], H27⟩ ?_ ?_
  refine yr 3 (S45 p0) ?_ (h := (by generalize p0 = qp0; cases qp0 <;> kernel_rfl))
  refine o_one ⟨[(E1 p0), E2, (E31 p0), E32, E33, (57, .tup [])], [B3], H27⟩ (st_call (d := (some 57)) (fz := false) (pure := false) (own := false) (S45 p0) (ok_item_Gen_Base H c26) (by generalize p0 = qp0; cases qp0 <;> kernel_rfl) (by generalize p0 = qp0; cases qp0 <;> kernel_rfl)) ?_
  exact ye
  obtain ⟨i28, o29, h30, hF⟩ := pbnd_inv hF
  let E34 : EN := (0, .one .top (.obj i28 o29))
  let E35 : EN := (58, .one .top (.obj i28 o29))
  let E36 : EN := (59, .one .top (.obj i28 o29))
  let E37 : EN := (60, .one .top (.obj i28 o29))
  let S46 : St := ⟨[E34, E2, E35, E36, E37, E38, E39, E40], [B3], H27⟩
  obtain ⟨x31, V32, hF⟩ := bind1_inv hF
  replace V32 := hgetT_inv V32
  obtain ⟨H35, r33, c34, hF⟩ := bind2_inv hF
  refine w_regD (.take 0 (.take 1 (.take 2 (.take 4 (.take 5 (.take 6 (.last 3 (.last 7 .done)))))))) (by kernel_rfl) (⟨[], [], H35⟩ : St) ?_ ?_
  refine d_take ⟨[(E1 p0), E2, (58, .one .top (Ptr.av p0))], [B3], H27⟩ (by generalize p0 = qp0; cases qp0 <;> kernel_rfl) ?_
  refine d_eq (congrArg (fun q => (⟨[(0, .one .top (Ptr.av q)), E2, (58, .one .top (Ptr.av q))], [B3], H27⟩ : St)) h30) ?_
  refine ydt ⟨[E34, E2, E35, E36], [B3], H27⟩ ?_
  refine d_take ⟨[E34, E2, E35, E36, E37], [B3], H27⟩ (by generalize x31.Code_ = qp0; generalize x31.Proc_.frame_ = qp1; cases qp0 <;> cases qp1 <;> kernel_rfl) ?_
  refine d_take ⟨[E34, E2, E35, E36, E37, E38], [B3], H27⟩ (by generalize x31.Code_ = qp0; generalize x31.Proc_.frame_ = qp1; cases qp0 <;> cases qp1 <;> kernel_rfl) ?_
  refine d_take ⟨[E34, E2, E35, E36, E37, E38, E39], [B3], H27⟩ (by generalize x31.Code_ = qp0; generalize x31.Proc_.frame_ = qp1; cases qp0 <;> cases qp1 <;> kernel_rfl) ?_
  refine d_take S46 (by generalize x31.Code_ = qp0; generalize x31.Proc_.frame_ = qp1; cases qp0 <;> cases qp1 <;> kernel_rfl) ?_
  refine d_last ⟨[E34, E2, E35, E36, E37, (61, .one .top (Ptr.av x31.Code_)), E38, E39, E40], [B3], H27⟩ (yd (X := X) S46 26 V32 0 1 false (.one .top (Ptr.av x31.Code_)) (some 61) (hs := (by generalize x31.Code_ = qp0; generalize x31.Proc_.frame_ = qp1; cases qp0 <;> cases qp1 <;> kernel_rfl))) ?_
  refine d_last ⟨[E34, E2, E35, E36, E37, (61, .one .top (Ptr.av x31.Code_)), E38, E39, E40, (65, .one .top (.int .i64 r33))], [B3], H35⟩ (st_call (d := (some 65)) (fz := false) (pure := false) (own := false) (⟨[E34, E2, E35, E36, E37, (61, .one .top (Ptr.av x31.Code_)), E38, E39, E40], [B3], H27⟩ : St) (ok_emit_Code_Sign H27 c34) (by generalize x31.Code_ = qp0; generalize x31.Proc_.frame_ = qp1; cases qp0 <;> cases qp1 <;> kernel_rfl) (by generalize x31.Code_ = qp0; generalize x31.Proc_.frame_ = qp1; cases qp0 <;> cases qp1 <;> kernel_rfl)) ?_
  exact yde
  exact ⟨H35, hF, (by kernel_rfl)⟩
  refine yF h25 ⟨[], [], H⟩ ?_
  refine ysg ⟨[(4, .one .top (.int .i64 111))], [], H⟩ ?_
  refine w_ret ?_
  obtain ⟨e0, e1⟩ := some2_inv hF
  subst e0
  subst e1
  exact yi (.one .top (.int .i64 111))
noncomputable def item_Gen_Load (H : Heap) (p0 : Ptr) : Option (Heap) :=
  (p0).bnd fun i1 o2 =>
  bind1 (get_item_Gen H i1 o2) fun x4 =>
  bind2 (emit_Code_Sign H x4.Code_ 18 0 0 0) fun H8 r6 =>
  some H8
theorem ok_item_Gen_Load (H : Heap) {p0 : Ptr} {Hr : Heap} (hF : item_Gen_Load H p0 = some Hr) : evS X 36 [.one .top (Ptr.av p0)] H = some (.tup [], Hr) := by
  refine yf Try.func36 false ⟨[(0, .one .top (Ptr.av p0))], [], H⟩ ?_
  unfold item_Gen_Load at hF
  obtain ⟨i1, o2, h3, hF⟩ := pbnd_inv hF
  let E1 : EN := (0, .one .top (.obj i1 o2))
  let E2 : EN := (2, .one .top (.obj i1 o2))
  let E3 : EN := (3, .one .top (.obj i1 o2))
  let E4 : EN := (4, .one .top (.obj i1 o2))
  let S5 : St := ⟨[E1, E2, E3, E4], [], H⟩
  obtain ⟨x4, V5, hF⟩ := bind1_inv hF
  replace V5 := hgetT_inv V5
  obtain ⟨H8, r6, c7, hF⟩ := bind2_inv hF
  refine w_regO ⟨[], [], H8⟩ ?_ ?_
  refine yr 1 ⟨[(0, .one .top (Ptr.av p0)), (2, .one .top (Ptr.av p0))], [], H⟩ ?_ (h := (by generalize p0 = qp0; cases qp0 <;> kernel_rfl))
  refine o_eq (congrArg (fun q => (⟨[(0, .one .top (Ptr.av q)), (2, .one .top (Ptr.av q))], [], H⟩ : St)) h3) ?_
  refine yr 1 ⟨[E1, E2, E3], [], H⟩ ?_
  refine yr 1 S5 ?_ (h := (by generalize x4.Code_ = qp0; generalize x4.Proc_.frame_ = qp1; cases qp0 <;> cases qp1 <;> kernel_rfl))
  refine o_one ⟨[E1, E2, E3, E4, (5, .one .top (Ptr.av x4.Code_))], [], H⟩ (yd (X := X) S5 26 V5 0 1 false (.one .top (Ptr.av x4.Code_)) (some 5) (hs := (by generalize x4.Code_ = qp0; generalize x4.Proc_.frame_ = qp1; cases qp0 <;> cases qp1 <;> kernel_rfl))) ?_
  refine o_one ⟨[E1, E2, E3, E4, (5, .one .top (Ptr.av x4.Code_)), (6, .one .top (.int .i64 r6))], [], H8⟩ (st_call (d := (some 6)) (fz := false) (pure := false) (own := false) (⟨[E1, E2, E3, E4, (5, .one .top (Ptr.av x4.Code_))], [], H⟩ : St) (ok_emit_Code_Sign H c7) (by generalize x4.Code_ = qp0; generalize x4.Proc_.frame_ = qp1; cases qp0 <;> cases qp1 <;> kernel_rfl) (by generalize x4.Code_ = qp0; generalize x4.Proc_.frame_ = qp1; cases qp0 <;> cases qp1 <;> kernel_rfl)) ?_
  exact ye
  obtain e0 := some1_inv hF
  subst e0
  exact yi (.tup [])
noncomputable def law19_chain_L2 (p1 : Int) (a6 : Int) (a10 : (List Int)) (a11 : Int) : Option (((List Int) × Int) ⊕ (((List Int)))) :=
  if (decide (a11 < 16)) = true then (bind1 (gi a10 (IntKind.wrap .i64 ((IntKind.wrap .i64 ((IntKind.wrap .i64 (16 * (IntKind.wrap .i64 (p1 - a6)))) - 8)) + a11))) fun x13 =>
  bind1 (si a10 (IntKind.wrap .i64 ((IntKind.wrap .i64 ((IntKind.wrap .i64 (16 * (IntKind.wrap .i64 (p1 - a6)))) - 8)) + a11)) (IntKind.wrap .u32 (IntKind.wrap .i64 ((IntKind.wrap .i64 (1000 * a6)) + a11)))) fun v15 =>
  some (Sum.inl (v15, (IntKind.wrap .i64 (a11 + 1)))))
  else (some (Sum.inr a10))
noncomputable def law19_chain_L1 (p1 : Int) (a3 : (List Int)) (a4 : Int) (a5 : (List Int)) (a6 : Int) : Option (((List Int) × Int × (List Int) × Int) ⊕ (((List Int) × (List Int)))) :=
  if (decide (a6 < p1)) = true then (bind1 (app 4 a5 ([(IntKind.wrap .u32 (a4 + (IntKind.wrap .u32 (IntKind.wrap .i64 (64 * (IntKind.wrap .i64 (p1 - a6)))))))] : List Int)) fun v8 =>
  bind1 (loopO (fun (x : ((List Int) × Int)) => law19_chain_L2 p1 a6 x.1 x.2) (a3, 0)) (fun b19 =>
  some (Sum.inl (b19, a4, v8, (IntKind.wrap .i64 (a6 + 1))))))
  else (some (Sum.inr (a3, a5)))
noncomputable def law19_chain_L3 (p1 : Int) (b23 : (List Int)) (a24 : (List Int)) (a25 : Int) : Option (((List Int) × Int) ⊕ (((List Int)))) :=
  if (decide (a25 < p1)) = true then (bind1 (gi b23 (IntKind.wrap .i64 (a25 - 1))) fun x27 =>
  bind1 (gi a24 (IntKind.wrap .i64 ((IntKind.wrap .i64 (16 * (IntKind.wrap .i64 (p1 - a25)))) + 2))) fun x29 =>
  bind1 (si a24 (IntKind.wrap .i64 ((IntKind.wrap .i64 (16 * (IntKind.wrap .i64 (p1 - a25)))) + 2)) x27) fun v31 =>
  some (Sum.inl (v31, (IntKind.wrap .i64 (a25 + 1)))))
  else (some (Sum.inr a24))
noncomputable def law19_chain  (p0 : Int) (p1 : Int) : Option ((List Int) × (List Int)) :=
  bind1 (mks 4 (IntKind.wrap .i64 ((IntKind.wrap .i64 (16 * p1)) + 32)) (IntKind.wrap .i64 ((IntKind.wrap .i64 (16 * p1)) + 32)) 0) fun v1 =>
  bind1 (loopO (fun (x : ((List Int) × Int × (List Int) × Int)) => law19_chain_L1 p1 x.1 x.2.1 x.2.2.1 x.2.2.2) (v1, (IntKind.wrap .u32 (IntKind.wrap .i64 (4 * p0))), ([] : List Int), 0)) (tup2 fun b22 b23 =>
  bind1 (loopO (fun (x : ((List Int) × Int)) => law19_chain_L3 p1 b23 x.1 x.2) (b22, 1)) (fun b35 =>
  some (b35, b23)))
theorem ok_law19_chain (H : Heap) {p0 : Int} {p1 : Int} {ra : (List Int)} {rb : (List Int)} (hF : law19_chain p0 p1 = some (ra, rb)) : evS X 37 [.one .top (.int .i64 p0), .one .top (.int .i64 p1)] H = some (.tup [.one (.own 1) (.sl 1 (List.map (eI .u32) ra)), .one (.own 1) (.sl 1 (List.map (eI .u32) rb))], H) := by
  let E1 : EN := (0, .one .top (.int .i64 p0))
  let E2 : EN := (1, .one .top (.int .i64 p1))
  let E4 : EN := (12, .one .top (.int .i64 p1))
  let E5 : EN := (13, .one .top (.int .i64 (IntKind.wrap .i64 (16 * p1))))
  let E6 : EN := (14, .one .top (.int .i64 (IntKind.wrap .i64 ((IntKind.wrap .i64 (16 * p1)) + 32))))
  let E7 : EN := (7, .one .top (.int .u32 (IntKind.wrap .u32 (IntKind.wrap .i64 (4 * p0)))))
  let E8 : EN := (8, .one (.own 1) (.sl 1 (List.map (eI .u32) ([] : List Int))))
  let E14 : EN := (8, .one .top .junk)
  let E16 : EN := (26, .one .top (.int .i64 p1))
  let E22 : EN := (24, .one .top .junk)
  let E23 : EN := (32, .one .top .junk)
  let E28 : EN := (39, .one .top (.int .i64 p1))
  let E48 : EN := (58, .one .top (.int .i64 p1))
  let S59 : St := ⟨[E1, E2, E4, E5, E6], [], H⟩
  refine yf Try.func37 true ⟨[E1, E2], [], H⟩ ?_
  unfold law19_chain at hF
  refine ysg ⟨[E1, E2], [], H⟩ ?_
  refine w_seq ?_
  obtain ⟨v1, h2, hF⟩ := bind1_inv hF
  let E3 : EN := (6, .one (.own 1) (.sl 1 (List.map (eI .u32) v1)))
  refine w_regO ⟨[E1, E2, E3], [], H⟩ ?_ ?_
  refine yr 3 S59 ?_
  refine o_one ⟨[E1, E2, E4, E5, E6, (15, .one (.own 1) (.sl 1 (List.map (eI .u32) v1)))], [], H⟩ (st_mk (X := X) S59 4 h2 42 35 1 [(.top, .int .u32 0)] (eI .u32) 0 (.i64) (.i64) (some 15) (by kernel_rfl) (by kernel_rfl) (by kernel_rfl) (by kernel_rfl) (by kernel_rfl) (by kernel_rfl) (by kernel_rfl) (by kernel_rfl) (by kernel_rfl) (by kernel_rfl)) ?_
  refine yr 1 ⟨[E1, E2, E3, E4, E5, E6, (15, .one .top .junk)], [], H⟩ ?_
  exact ye
  refine ysg ⟨[E2, E3, E7], [], H⟩ ?_
  refine ysg ⟨[E2, E3, E7, E8], [], H⟩ ?_
  refine w_seq ?_
  refine ysg ⟨[E2, E3, E7, E8, (9, .one .top (.int .i64 0))], [], H⟩ ?_
  refine w_block ?_
  obtain ⟨r20, hL21, hF⟩ := bind1_inv hF
  refine w_loop (fun (x : ((List Int) × Int × (List Int) × Int)) => (⟨[E2, (6, .one (.own 1) (.sl 1 (List.map (eI .u32) x.1))), (7, .one .top (.int .u32 x.2.1)), (8, .one (.own 1) (.sl 1 (List.map (eI .u32) x.2.2.1))), (9, .one .top (.int .i64 x.2.2.2))], [], H⟩ : St)) (fun (y : ((List Int) × (List Int))) => ((.exit 0, (⟨[E2, (6, .one (.own 1) (.sl 1 (List.map (eI .u32) y.1))), (8, .one (.own 1) (.sl 1 (List.map (eI .u32) y.2)))], [], H⟩ : St)) : Ex × St)) hL21 (by kernel_rfl) ?_ ?_
  rintro ⟨a3, a4, a5, a6⟩ o hF
  replace hF : law19_chain_L1 p1 a3 a4 a5 a6 = some o := hF
  let E9 : EN := (6, .one (.own 1) (.sl 1 (List.map (eI .u32) a3)))
  let E10 : EN := (7, .one .top (.int .u32 a4))
  let E11 : EN := (8, .one (.own 1) (.sl 1 (List.map (eI .u32) a5)))
  let E12 : EN := (9, .one .top (.int .i64 a6))
  let E15 : EN := (25, .one .top (.int .u32 a4))
  let E17 : EN := (27, .one .top (.int .i64 a6))
  let E18 : EN := (28, .one .top (.int .i64 (IntKind.wrap .i64 (p1 - a6))))
  let E19 : EN := (29, .one .top (.int .i64 (IntKind.wrap .i64 (64 * (IntKind.wrap .i64 (p1 - a6))))))
  let E20 : EN := (30, .one .top (.int .u32 (IntKind.wrap .u32 (IntKind.wrap .i64 (64 * (IntKind.wrap .i64 (p1 - a6)))))))
  let E21 : EN := (31, .one .top (.int .u32 (IntKind.wrap .u32 (a4 + (IntKind.wrap .u32 (IntKind.wrap .i64 (64 * (IntKind.wrap .i64 (p1 - a6)))))))))
  let E29 : EN := (40, .one .top (.int .i64 a6))
  let E30 : EN := (41, .one .top (.int .i64 (IntKind.wrap .i64 (p1 - a6))))
  let E31 : EN := (42, .one .top (.int .i64 (IntKind.wrap .i64 (16 * (IntKind.wrap .i64 (p1 - a6))))))
  let E32 : EN := (43, .one .top (.int .i64 (IntKind.wrap .i64 ((IntKind.wrap .i64 (16 * (IntKind.wrap .i64 (p1 - a6)))) - 8))))
  let E35 : EN := (46, .one .top (.int .i64 a6))
  let E36 : EN := (47, .one .top (.int .i64 (IntKind.wrap .i64 (1000 * a6))))
  unfold law19_chain_L1 at hF
  refine w_seq ?_
  refine ysg ⟨[E2, E9, E10, E11, E12, (21, .one .top (.bool (decide (a6 < p1))))], [], H⟩ ?_
  rcases if_inv hF with ⟨h7, hF⟩ | ⟨h7, hF⟩
  refine yT h7 ⟨[E2, E9, E10, E11, E12], [], H⟩ ?_
  refine w_skip ?_
  refine w_seq ?_
  refine w_block ?_
  refine w_seq ?_
  obtain ⟨v8, h9, hF⟩ := bind1_inv hF
  let E13 : EN := (8, .one (.own 1) (.sl 1 (List.map (eI .u32) v8)))
  refine w_regO ⟨[E2, E9, E10, E13, E12], [], H⟩ ?_ ?_
  refine yr 9 ⟨[E2, E9, E10, E14, E12, (24, .one (.own 1) (.sl 1 (List.map (eI .u32) a5))), E15, E16, E17, E18, E19, E20, E21, (32, .one (.own 1) (.sl 1 (List.map (eI .u32) ([(IntKind.wrap .u32 (a4 + (IntKind.wrap .u32 (IntKind.wrap .i64 (64 * (IntKind.wrap .i64 (p1 - a6)))))))] : List Int))))], [], H⟩ ?_
  refine o_one ⟨[E2, E9, E10, E14, E12, E22, E15, E16, E17, E18, E19, E20, E21, E23, (33, .one (.own 1) (.sl 1 (List.map (eI .u32) v8)))], [], H⟩ (st_app (X := X) (⟨[E2, E9, E10, E14, E12, E22, E15, E16, E17, E18, E19, E20, E21, E23], [], H⟩ : St) 4 h9 42 42 35 1 0 [(.top, .int .u32 0)] (.own 1) (eI .u32) 0 (some 33) (by kernel_rfl) (by kernel_rfl) (by kernel_rfl) (by kernel_rfl) (by kernel_rfl) (by kernel_rfl) (by kernel_rfl) (by kernel_rfl) (by kernel_rfl) (fun _ => rfl) (by kernel_rfl)) ?_
  refine yr 1 ⟨[E2, E9, E10, E13, E12, E22, E15, E16, E17, E18, E19, E20, E21, E23, (33, .one .top .junk)], [], H⟩ ?_
  exact ye
  refine ysg ⟨[E2, E9, E10, E13, E12, (10, .one .top (.int .i64 0))], [], H⟩ ?_
  refine w_block ?_
  obtain ⟨r17, hL18, hF⟩ := bind1_inv hF
  refine w_loop (fun (x : ((List Int) × Int)) => (⟨[E2, (6, .one (.own 1) (.sl 1 (List.map (eI .u32) x.1))), E10, E13, E12, (10, .one .top (.int .i64 x.2))], [], H⟩ : St)) (fun (y : ((List Int))) => ((.exit 2, (⟨[E2, (6, .one (.own 1) (.sl 1 (List.map (eI .u32) y))), E10, E13, E12], [], H⟩ : St)) : Ex × St)) hL18 (by kernel_rfl) ?_ ?_
  rintro ⟨a10, a11⟩ o hF
  replace hF : law19_chain_L2 p1 a6 a10 a11 = some o := hF
  let E24 : EN := (6, .one (.own 1) (.sl 1 (List.map (eI .u32) a10)))
  let E25 : EN := (10, .one .top (.int .i64 a11))
  let E27 : EN := (38, .one .top (.at_ (.tmp 6) 0 ((List.map (eI .u32) a10).length)))
  let E33 : EN := (44, .one .top (.int .i64 a11))
  let E34 : EN := (45, .one .top (.int .i64 (IntKind.wrap .i64 ((IntKind.wrap .i64 ((IntKind.wrap .i64 (16 * (IntKind.wrap .i64 (p1 - a6)))) - 8)) + a11))))
  let E37 : EN := (48, .one .top (.int .i64 a11))
  let E38 : EN := (49, .one .top (.int .i64 (IntKind.wrap .i64 ((IntKind.wrap .i64 (1000 * a6)) + a11))))
  let E39 : EN := (50, .one .top (.int .u32 (IntKind.wrap .u32 (IntKind.wrap .i64 ((IntKind.wrap .i64 (1000 * a6)) + a11)))))
  let E40 : EN := (51, .one .top (.el (.tmp 6) (Int.toNat (IntKind.wrap .i64 ((IntKind.wrap .i64 ((IntKind.wrap .i64 (16 * (IntKind.wrap .i64 (p1 - a6)))) - 8)) + a11))) 0))
  let S60 : St := ⟨[E2, E24, E10, E13, E12, E25, E27, E28, E29, E30, E31, E32, E33, E34, E35, E36, E37, E38, E39], [], H⟩
  let S61 : St := ⟨[E2, E24, E10, E13, E12, E25, E27, E28, E29, E30, E31, E32, E33, E34, E35, E36, E37, E38, E39, E40], [], H⟩
  unfold law19_chain_L2 at hF
  refine w_seq ?_
  refine ysg ⟨[E2, E24, E10, E13, E12, E25, (35, .one .top (.bool (decide (a11 < 16))))], [], H⟩ ?_
  rcases if_inv hF with ⟨h12, hF⟩ | ⟨h12, hF⟩
  refine yT h12 ⟨[E2, E24, E10, E13, E12, E25], [], H⟩ ?_
  refine w_skip ?_
  refine w_seq ?_
  refine w_block ?_
  obtain ⟨x13, h14, hF⟩ := bind1_inv hF
  obtain ⟨v15, h16, hF⟩ := bind1_inv hF
  let E26 : EN := (6, .one (.own 1) (.sl 1 (List.map (eI .u32) v15)))
  let S62 : St := ⟨[E2, E26, E10, E13, E12, E25, E27, E28, E29, E30, E31, E32, E33, E34, E35, E36, E37, E38, E39, E40], [], H⟩
  refine w_regO ⟨[E2, E26, E10, E13, E12, E25], [], H⟩ ?_ ?_
  refine yr 13 S60 ?_
  refine o_one S61 (st_ixA (X := X) S60 42 35 1 h14 (eI .u32) (.tmp 6) 0 (List.map (eI .u32) a10).length 0 (some 51) (by kernel_rfl) (by kernel_rfl) (by kernel_rfl) (by kernel_rfl) rfl (List.length_map _) (by kernel_rfl)) ?_
  refine o_one S62 (st_stE (X := X) S61 S62 ⟨true, []⟩ 35 (.tmp 6) (Int.toNat (IntKind.wrap .i64 ((IntKind.wrap .i64 ((IntKind.wrap .i64 (16 * (IntKind.wrap .i64 (p1 - a6)))) - 8)) + a11))) 0 1 0 (List.map (eI .u32) a10) [.int .u32 x13] ((eI .u32) (IntKind.wrap .u32 (IntKind.wrap .i64 ((IntKind.wrap .i64 (1000 * a6)) + a11)))) (List.map (eI .u32) v15) 1 (.one .top (.int .u32 (IntKind.wrap .u32 (IntKind.wrap .i64 ((IntKind.wrap .i64 (1000 * a6)) + a11))))) (by kernel_rfl) (by kernel_rfl) (by kernel_rfl) (by kernel_rfl) (by kernel_rfl) (by kernel_rfl) (el_at h14) (by kernel_rfl) (by kernel_rfl) (el_put h16) (by kernel_rfl) (by kernel_rfl)) ?_
  exact ye
  refine yg ⟨[E2, E26, E10, E13, E12, (10, .one .top (.int .i64 (IntKind.wrap .i64 (a11 + 1))))], [], H⟩ ?_
  cases hF
  exact ⟨_, rfl, (by kernel_rfl)⟩
  refine yF h12 ⟨[E2, E24, E10, E13, E12], [], H⟩ ?_
  refine w_exit ?_
  cases hF
  exact ⟨_, rfl, (by kernel_rfl)⟩
  obtain ⟨b19, hy⟩ : ∃ y, y = r17 := ⟨_, rfl⟩
  subst hy
  let E41 : EN := (6, .one (.own 1) (.sl 1 (List.map (eI .u32) b19)))
  refine w_oe (i := 2) (s := (⟨[E2, E41, E10, E13, E12], [], H⟩ : St)) (by kernel_rfl) ?_
  refine e_here ?_
  refine yg ⟨[E2, E41, E10, E13, (9, .one .top (.int .i64 (IntKind.wrap .i64 (a6 + 1))))], [], H⟩ ?_
  cases hF
  exact ⟨_, rfl, (by kernel_rfl)⟩
  refine yF h7 ⟨[E2, E9, E11], [], H⟩ ?_
  refine w_exit ?_
  cases hF
  exact ⟨_, rfl, (by kernel_rfl)⟩
  obtain ⟨b22, b23⟩ := r20
  replace hF := tup2_inv hF
  let E42 : EN := (6, .one (.own 1) (.sl 1 (List.map (eI .u32) b22)))
  let E43 : EN := (8, .one (.own 1) (.sl 1 (List.map (eI .u32) b23)))
  let E53 : EN := (63, .one .bl (.sl 1 (List.map (eI .u32) b23)))
  refine w_oe (i := 0) (s := (⟨[E2, E42, E43], [], H⟩ : St)) (by kernel_rfl) ?_
  refine e_here ?_
  refine w_seq ?_
  refine ysg ⟨[E2, E42, E43, (11, .one .top (.int .i64 1))], [], H⟩ ?_
  refine w_block ?_
  obtain ⟨r33, hL34, hF⟩ := bind1_inv hF
  refine w_loop (fun (x : ((List Int) × Int)) => (⟨[E2, (6, .one (.own 1) (.sl 1 (List.map (eI .u32) x.1))), E43, (11, .one .top (.int .i64 x.2))], [], H⟩ : St)) (fun (y : ((List Int))) => ((.exit 4, (⟨[(6, .one (.own 1) (.sl 1 (List.map (eI .u32) y))), E43], [], H⟩ : St)) : Ex × St)) hL34 (by kernel_rfl) ?_ ?_
  rintro ⟨a24, a25⟩ o hF
  replace hF : law19_chain_L3 p1 b23 a24 a25 = some o := hF
  let E44 : EN := (6, .one (.own 1) (.sl 1 (List.map (eI .u32) a24)))
  let E45 : EN := (11, .one .top (.int .i64 a25))
  let E47 : EN := (57, .one .top (.at_ (.tmp 6) 0 ((List.map (eI .u32) a24).length)))
  let E49 : EN := (59, .one .top (.int .i64 a25))
  let E50 : EN := (60, .one .top (.int .i64 (IntKind.wrap .i64 (p1 - a25))))
  let E51 : EN := (61, .one .top (.int .i64 (IntKind.wrap .i64 (16 * (IntKind.wrap .i64 (p1 - a25))))))
  let E52 : EN := (62, .one .top (.int .i64 (IntKind.wrap .i64 ((IntKind.wrap .i64 (16 * (IntKind.wrap .i64 (p1 - a25)))) + 2))))
  let E54 : EN := (64, .one .top (.int .i64 a25))
  let E55 : EN := (65, .one .top (.int .i64 (IntKind.wrap .i64 (a25 - 1))))
  let E58 : EN := (68, .one .top (.el (.tmp 6) (Int.toNat (IntKind.wrap .i64 ((IntKind.wrap .i64 (16 * (IntKind.wrap .i64 (p1 - a25)))) + 2))) 0))
  let S63 : St := ⟨[E2, E44, E43, E45, E47, E48, E49, E50, E51, E52, E53, E54, E55], [], H⟩
  unfold law19_chain_L3 at hF
  refine w_seq ?_
  refine ysg ⟨[E2, E44, E43, E45, (54, .one .top (.bool (decide (a25 < p1))))], [], H⟩ ?_
  rcases if_inv hF with ⟨h26, hF⟩ | ⟨h26, hF⟩
  refine yT h26 ⟨[E2, E44, E43, E45], [], H⟩ ?_
  refine w_skip ?_
  refine w_seq ?_
  refine w_block ?_
  obtain ⟨x27, h28, hF⟩ := bind1_inv hF
  let E56 : EN := (66, .one .top (.rd .bl .bl [.int .u32 x27] 0))
  let E57 : EN := (67, .one .top (.int .u32 x27))
  let S64 : St := ⟨[E2, E44, E43, E45, E47, E48, E49, E50, E51, E52, E53, E54, E55, E56, E57], [], H⟩
  let S65 : St := ⟨[E2, E44, E43, E45, E47, E48, E49, E50, E51, E52, E53, E54, E55, E56, E57, E58], [], H⟩
  obtain ⟨x29, h30, hF⟩ := bind1_inv hF
  obtain ⟨v31, h32, hF⟩ := bind1_inv hF
  let E46 : EN := (6, .one (.own 1) (.sl 1 (List.map (eI .u32) v31)))
  refine w_regO ⟨[E2, E46, E43, E45], [], H⟩ ?_ ?_
  refine yr 9 S63 ?_
  refine o_one ⟨[E2, E44, E43, E45, E47, E48, E49, E50, E51, E52, E53, E54, E55, E56], [], H⟩ (st_ix (X := X) S63 42 35 1 h28 (eI .u32) .bl (some 66) (by kernel_rfl) (by kernel_rfl) (by kernel_rfl) (by kernel_rfl)) ?_
  refine yr 1 S64 ?_
  refine o_one S65 (st_ixA (X := X) S64 42 35 1 h30 (eI .u32) (.tmp 6) 0 (List.map (eI .u32) a24).length 0 (some 68) (by kernel_rfl) (by kernel_rfl) (by kernel_rfl) (by kernel_rfl) rfl (List.length_map _) (by kernel_rfl)) ?_
  refine o_one ⟨[E2, E46, E43, E45, E47, E48, E49, E50, E51, E52, (63, .one .top .junk), E54, E55, (66, .one .top .junk), E57, E58], [], H⟩ (st_stE (X := X) S65 (⟨[E2, E46, E43, E45, E47, E48, E49, E50, E51, E52, E53, E54, E55, E56, E57, E58], [], H⟩ : St) ⟨true, []⟩ 35 (.tmp 6) (Int.toNat (IntKind.wrap .i64 ((IntKind.wrap .i64 (16 * (IntKind.wrap .i64 (p1 - a25)))) + 2))) 0 1 0 (List.map (eI .u32) a24) [.int .u32 x29] ((eI .u32) x27) (List.map (eI .u32) v31) 1 (.one .top (.int .u32 x27)) (by kernel_rfl) (by kernel_rfl) (by kernel_rfl) (by kernel_rfl) (by kernel_rfl) (by kernel_rfl) (el_at h30) (by kernel_rfl) (by kernel_rfl) (el_put h32) (by kernel_rfl) (by kernel_rfl)) ?_
  exact ye
  refine yg ⟨[E2, E46, E43, (11, .one .top (.int .i64 (IntKind.wrap .i64 (a25 + 1))))], [], H⟩ ?_
  cases hF
  exact ⟨_, rfl, (by kernel_rfl)⟩
  refine yF h26 ⟨[E44, E43], [], H⟩ ?_
  refine w_exit ?_
  cases hF
  exact ⟨_, rfl, (by kernel_rfl)⟩
  obtain ⟨b35, hy⟩ : ∃ y, y = r33 := ⟨_, rfl⟩
  subst hy
  refine w_oe (i := 4) (s := (⟨[(6, .one (.own 1) (.sl 1 (List.map (eI .u32) b35))), E43], [], H⟩ : St)) (by kernel_rfl) ?_
  refine e_here ?_
  refine ysg ⟨[(4, .one (.own 1) (.sl 1 (List.map (eI .u32) b35))), (5, .one (.own 1) (.sl 1 (List.map (eI .u32) b23)))], [], H⟩ ?_
  refine w_ret ?_
  obtain ⟨e0, e1⟩ := some2_inv hF
  subst e0
  subst e1
  exact yp (.tup [.one (.own 1) (.sl 1 (List.map (eI .u32) b35)), .one (.own 1) (.sl 1 (List.map (eI .u32) b23))])
theorem ok_ref19_Run_2 (H : Heap) {p0 : (List Int)} {p1 : (List Int)} {p2 : Int} {p3 : (List Int)} {p4 : (Arr 16 Int)} {p5 : Int} {ra : T_ref04_Cpu} {rb : T_ref03_Mem} (hF : ref19_Run p0 p1 p2 p3 p4 p5 = some (ra, rb)) : evS X 38 [.one .bl (.sl 1 (List.map (eI .u32) p0)), .one (.own 1) (.sl 1 (List.map (eI .u32) p1)), .one .top (.int .i64 p2), .one .bl (.sl 1 (List.map (eI .u32) p3)), .agg (arM .u32 16 p4), .one .top (.int .i64 p5)] H = some (.tup [.agg (m1_ref04_Cpu ra), .agg (m0_ref03_Mem rb)], H) := by
  let E1 : EN := (0, .one .bl (.sl 1 (List.map (eI .u32) p0)))
  let E2 : EN := (1, .one (.own 1) (.sl 1 (List.map (eI .u32) p1)))
  let E3 : EN := (2, .one .top (.int .i64 p2))
  let E4 : EN := (3, .one .bl (.sl 1 (List.map (eI .u32) p3)))
  let E5 : EN := (5, .one .top (.int .i64 p5))
  let E6 : EN := (10, .one .top (.loc 10 0))
  let E7 : EN := (12, .one .top (.loc 12 0))
  let E8 : EN := (13, .one .top (.loc 13 0))
  let B9 : EB := (10, (arM .u32 16 p4))
  let B10 : EB := (12, (List.replicate 19 (.top, .int .u32 0) ++ List.replicate 4 (.top, .int .i64 0) ++ [((.own 1), .sl 2 (List.map e_api_Event ([] : List T_api_Event)))] ++ List.replicate 4 (.top, .int .u32 0) ++ [((.own 1), .sl 1 (List.map (eI .i32) ([] : List Int)))]))
  let B11 : EB := (13, (List.replicate 5 (.top, .int .u32 0) ++ [((.own 1), .sl 1 (List.map (eI .u32) ([] : List Int)))]))
  let E12 : EN := (14, .one .top (.int .u32 (IntKind.wrap .u32 (IntKind.wrap .i64 (4 * (p0.length : Int))))))
  let E13 : EN := (20, .one .bl (.sl 1 (List.map (eI .u32) p0)))
  let E14 : EN := (21, .one .top (.int .i64 (p0.length : Int)))
  let E15 : EN := (15, .one .top (.int .u32 (IntKind.wrap .u32 ((IntKind.wrap .u32 (IntKind.wrap .i64 (4 * (p0.length : Int)))) + (IntKind.wrap .u32 (IntKind.wrap .i64 (4 * (p1.length : Int))))))))
  let E16 : EN := (24, .one .top (.int .u32 (IntKind.wrap .u32 (IntKind.wrap .i64 (4 * (p0.length : Int))))))
  let E17 : EN := (25, .one .bl (.sl 1 (List.map (eI .u32) p1)))
  let E18 : EN := (26, .one .top (.int .i64 (p1.length : Int)))
  let E19 : EN := (16, .one .top (.int .u32 (IntKind.wrap .u32 ((IntKind.wrap .u32 ((IntKind.wrap .u32 (IntKind.wrap .i64 (4 * (p0.length : Int)))) + (IntKind.wrap .u32 (IntKind.wrap .i64 (4 * (p1.length : Int)))))) + (IntKind.wrap .u32 p2)))))
  let E20 : EN := (17, .one .top (.loc 17 0))
  let E22 : EN := (34, .one .top (.int .u32 (IntKind.wrap .u32 (IntKind.wrap .i64 (4 * (p0.length : Int))))))
  let E23 : EN := (35, .one .top (.int .u32 (IntKind.wrap .u32 (IntKind.wrap .i64 (4 * (p0.length : Int))))))
  let E24 : EN := (36, .one .top (.int .u32 (IntKind.wrap .u32 ((IntKind.wrap .u32 (IntKind.wrap .i64 (4 * (p0.length : Int)))) + (IntKind.wrap .u32 (IntKind.wrap .i64 (4 * (p1.length : Int))))))))
  let E25 : EN := (37, .one .top (.int .u32 (IntKind.wrap .u32 ((IntKind.wrap .u32 ((IntKind.wrap .u32 (IntKind.wrap .i64 (4 * (p0.length : Int)))) + (IntKind.wrap .u32 (IntKind.wrap .i64 (4 * (p1.length : Int)))))) + (IntKind.wrap .u32 p2)))))
  let E26 : EN := (38, .one .top (.int .u32 (IntKind.wrap .u32 ((IntKind.wrap .u32 ((IntKind.wrap .u32 (IntKind.wrap .i64 (4 * (p0.length : Int)))) + (IntKind.wrap .u32 (IntKind.wrap .i64 (4 * (p1.length : Int)))))) + (IntKind.wrap .u32 p2)))))
  let E27 : EN := (39, .one .bl (.sl 1 (List.map (eI .u32) p3)))
  let E28 : EN := (40, .one .top (.int .i64 (p3.length : Int)))
  let E29 : EN := (41, .one .top (.int .i64 (IntKind.wrap .i64 (4 * (p3.length : Int)))))
  let E30 : EN := (42, .one .top (.int .u32 (IntKind.wrap .u32 (IntKind.wrap .i64 (4 * (p3.length : Int))))))
  let E31 : EN := (43, .one .top (.int .u32 (IntKind.wrap .u32 ((IntKind.wrap .u32 ((IntKind.wrap .u32 ((IntKind.wrap .u32 (IntKind.wrap .i64 (4 * (p0.length : Int)))) + (IntKind.wrap .u32 (IntKind.wrap .i64 (4 * (p1.length : Int)))))) + (IntKind.wrap .u32 p2))) + (IntKind.wrap .u32 (IntKind.wrap .i64 (4 * (p3.length : Int))))))))
  let E32 : EN := (44, .agg [(.top, .int .u32 (IntKind.wrap .u32 (IntKind.wrap .i64 (4 * (p0.length : Int))))), (.top, .int .u32 (IntKind.wrap .u32 (IntKind.wrap .i64 (4 * (p0.length : Int))))), (.top, .int .u32 (IntKind.wrap .u32 ((IntKind.wrap .u32 (IntKind.wrap .i64 (4 * (p0.length : Int)))) + (IntKind.wrap .u32 (IntKind.wrap .i64 (4 * (p1.length : Int))))))), (.top, .int .u32 (IntKind.wrap .u32 ((IntKind.wrap .u32 ((IntKind.wrap .u32 (IntKind.wrap .i64 (4 * (p0.length : Int)))) + (IntKind.wrap .u32 (IntKind.wrap .i64 (4 * (p1.length : Int)))))) + (IntKind.wrap .u32 p2)))), (.top, .int .u32 (IntKind.wrap .u32 ((IntKind.wrap .u32 ((IntKind.wrap .u32 ((IntKind.wrap .u32 (IntKind.wrap .i64 (4 * (p0.length : Int)))) + (IntKind.wrap .u32 (IntKind.wrap .i64 (4 * (p1.length : Int)))))) + (IntKind.wrap .u32 p2))) + (IntKind.wrap .u32 (IntKind.wrap .i64 (4 * (p3.length : Int)))))))])
  let E36 : EN := (48, .one .bl (.sl 1 (List.map (eI .u32) p0)))
  let E40 : EN := (54, .one .top (.int .u32 (IntKind.wrap .u32 (IntKind.wrap .i64 (4 * (p0.length : Int))))))
  let E41 : EN := (55, .one .bl (.sl 1 (List.map (eI .u32) p1)))
  let E45 : EN := (61, .one .top (.int .u32 (IntKind.wrap .u32 ((IntKind.wrap .u32 ((IntKind.wrap .u32 (IntKind.wrap .i64 (4 * (p0.length : Int)))) + (IntKind.wrap .u32 (IntKind.wrap .i64 (4 * (p1.length : Int)))))) + (IntKind.wrap .u32 p2)))))
  let E46 : EN := (62, .one .bl (.sl 1 (List.map (eI .u32) p3)))
  let E48 : EN := (18, .one .top (.loc 18 0))
  let B49 : EB := (18, (arM .u32 16 p4 ++ [(.top, .int .u32 4), (.top, .int .u32 0), (.top, .int .u32 0)] ++ List.replicate 4 (.top, .int .i64 0) ++ [((.own 0), .sl 2 (List.map e_api_Event ([] : List T_api_Event))), (.top, .int .u32 4), (.top, .int .u32 0), (.top, .int .u32 4), (.top, .int .u32 (IntKind.wrap .u32 ((IntKind.wrap .u32 ((IntKind.wrap .u32 (IntKind.wrap .i64 (4 * (p0.length : Int)))) + (IntKind.wrap .u32 (IntKind.wrap .i64 (4 * (p1.length : Int)))))) + (IntKind.wrap .u32 p2)))), ((.own 0), .sl 1 (List.map (eI .i32) ([] : List Int)))]))
  let E54 : EN := (70, .one .top (.int .i64 p5))
  let S65 : St := ⟨[E1, E2, E3, E4, E5, E6, E7, E8, E13], [B9, B10, B11], H⟩
  let S66 : St := ⟨[E1, E2, E3, E4, E5, E6, E7, E8, E12, E16, E17], [B9, B10, B11], H⟩
  let S67 : St := ⟨[E1, E2, E4, E5, E6, E7, E8, E12, E15, E19, E22, E23, E24, E25, E26, E27], [B9, B10, B11], H⟩
  let S68 : St := ⟨[E1, E2, E4, E5, E6, E7, E8, E12, E15, E19, E22, E23, E24, E25, E26, E27, E28, E29, E30, E31, E32], [B9, B10, B11], H⟩
  refine yf Try.func38 true ⟨[E1, E2, E3, E4, (4, .agg (arM .u32 16 p4)), E5], [], H⟩ ?_
  unfold ref19_Run at hF
  refine ysg ⟨[E1, E2, E3, E4, E5, E6, E7, E8], [B9, B10, B11], H⟩ ?_
  refine yso ⟨[E1, E2, E3, E4, E5, E6, E7, E8, E12], [B9, B10, B11], H⟩ ?_ ?_
  refine yr 1 S65 ?_
  refine o_one ⟨[E1, E2, E3, E4, E5, E6, E7, E8, E13, E14], [B9, B10, B11], H⟩ (yl S65 p0 (eI .u32) (some 21)) ?_
  refine yr 3 ⟨[E1, E2, E3, E4, E5, E6, E7, E8, E12, E13, E14, (22, .one .top (.int .i64 (IntKind.wrap .i64 (4 * (p0.length : Int))))), (23, .one .top (.int .u32 (IntKind.wrap .u32 (IntKind.wrap .i64 (4 * (p0.length : Int))))))], [B9, B10, B11], H⟩ ?_
  exact ye
  refine yso ⟨[E1, E2, E3, E4, E5, E6, E7, E8, E12, E15], [B9, B10, B11], H⟩ ?_ ?_
  refine yr 2 S66 ?_
  refine o_one ⟨[E1, E2, E3, E4, E5, E6, E7, E8, E12, E16, E17, E18], [B9, B10, B11], H⟩ (yl S66 p1 (eI .u32) (some 26)) ?_
  refine yr 4 ⟨[E1, E2, E3, E4, E5, E6, E7, E8, E12, E15, E16, E17, E18, (27, .one .top (.int .i64 (IntKind.wrap .i64 (4 * (p1.length : Int))))), (28, .one .top (.int .u32 (IntKind.wrap .u32 (IntKind.wrap .i64 (4 * (p1.length : Int)))))), (29, .one .top (.int .u32 (IntKind.wrap .u32 ((IntKind.wrap .u32 (IntKind.wrap .i64 (4 * (p0.length : Int)))) + (IntKind.wrap .u32 (IntKind.wrap .i64 (4 * (p1.length : Int))))))))], [B9, B10, B11], H⟩ ?_
  exact ye
  refine ysg ⟨[E1, E2, E4, E5, E6, E7, E8, E12, E15, E19], [B9, B10, B11], H⟩ ?_
  refine w_seq ?_
  obtain ⟨r1, c2, hF⟩ := bind1_inv hF
  let B21 : EB := (17, (m0_ref03_Mem r1))
  let E33 : EN := (45, .agg (m0_ref03_Mem r1))
  let E35 : EN := (47, .agg (m0_ref03_Mem r1))
  let S69 : St := ⟨[E1, E2, E4, E5, E6, E7, E8, E12, E19, E20, E35, E36], [B9, B10, B11, B21], H⟩
  refine w_regO ⟨[E1, E2, E4, E5, E6, E7, E8, E12, E19, E20], [B9, B10, B11, B21], H⟩ ?_ ?_
  refine yr 6 S67 ?_
  refine o_one ⟨[E1, E2, E4, E5, E6, E7, E8, E12, E15, E19, E22, E23, E24, E25, E26, E27, E28], [B9, B10, B11], H⟩ (yl S67 p3 (eI .u32) (some 40)) ?_
  refine yr 4 S68 ?_
  refine o_one ⟨[E1, E2, E4, E5, E6, E7, E8, E12, E15, E19, E22, E23, E24, E25, E26, E27, E28, E29, E30, E31, E32, E33], [B9, B10, B11], H⟩ (yc (some 45) true false S68 (ok_ref03_New H c2)) ?_
  refine yr 2 ⟨[E1, E2, E4, E5, E6, E7, E8, E12, E15, E19, E20, E22, E23, E24, E25, E26, E27, E28, E29, E30, E31, E32, E33], [B9, B10, B11, B21], H⟩ ?_
  exact ye
  refine w_seq ?_
  obtain ⟨r3, r4, c5, hF⟩ := bind2_inv hF
  let B34 : EB := (17, (m0_ref03_Mem r3))
  let E37 : EN := (49, .tup [.agg (m0_ref03_Mem r3), .one .top (.int .i64 r4)])
  let E39 : EN := (53, .agg (m0_ref03_Mem r3))
  let S70 : St := ⟨[E2, E4, E5, E6, E7, E8, E12, E19, E20, E39, E40, E41], [B9, B10, B11, B34], H⟩
  refine w_regO ⟨[E2, E4, E5, E6, E7, E8, E12, E19, E20], [B9, B10, B11, B34], H⟩ ?_ ?_
  refine yr 2 S69 ?_
  refine o_one ⟨[E1, E2, E4, E5, E6, E7, E8, E12, E19, E20, E35, E36, E37], [B9, B10, B11, B21], H⟩ (yc (some 49) true false S69 (ok_ref03_Fill H c5)) ?_
  refine yr 4 ⟨[E1, E2, E4, E5, E6, E7, E8, E12, E19, E20, (46, .tup [.agg (m0_ref03_Mem r3), .one .top (.int .i64 r4)]), E35, E36, E37, (50, .agg (m0_ref03_Mem r3)), (51, .one .top (.int .i64 r4))], [B9, B10, B11, B34], H⟩ ?_
  exact ye
  refine w_seq ?_
  obtain ⟨r6, r7, c8, hF⟩ := bind2_inv hF
  let B38 : EB := (17, (m0_ref03_Mem r6))
  let E42 : EN := (56, .tup [.agg (m0_ref03_Mem r6), .one .top (.int .i64 r7)])
  let E44 : EN := (60, .agg (m0_ref03_Mem r6))
  let S71 : St := ⟨[E4, E5, E6, E7, E8, E19, E20, E44, E45, E46], [B9, B10, B11, B38], H⟩
  refine w_regO ⟨[E4, E5, E6, E7, E8, E19, E20], [B9, B10, B11, B38], H⟩ ?_ ?_
  refine yr 3 S70 ?_
  refine o_one ⟨[E2, E4, E5, E6, E7, E8, E12, E19, E20, E39, E40, E41, E42], [B9, B10, B11, B34], H⟩ (yc (some 56) true false S70 (ok_ref03_Fill H c8)) ?_
  refine yr 4 ⟨[E2, E4, E5, E6, E7, E8, E12, E19, E20, (52, .tup [.agg (m0_ref03_Mem r6), .one .top (.int .i64 r7)]), E39, E40, E41, E42, (57, .agg (m0_ref03_Mem r6)), (58, .one .top (.int .i64 r7))], [B9, B10, B11, B38], H⟩ ?_
  exact ye
  refine w_seq ?_
  obtain ⟨r9, r10, c11, hF⟩ := bind2_inv hF
  let B43 : EB := (17, (m0_ref03_Mem r9))
  let E47 : EN := (63, .tup [.agg (m0_ref03_Mem r9), .one .top (.int .i64 r10)])
  refine w_regO ⟨[E5, E6, E7, E8, E19, E20], [B9, B10, B11, B43], H⟩ ?_ ?_
  refine yr 3 S71 ?_
  refine o_one ⟨[E4, E5, E6, E7, E8, E19, E20, E44, E45, E46, E47], [B9, B10, B11, B38], H⟩ (yc (some 63) true false S71 (ok_ref03_Fill H c11)) ?_
  refine yr 4 ⟨[E4, E5, E6, E7, E8, E19, E20, (59, .tup [.agg (m0_ref03_Mem r9), .one .top (.int .i64 r10)]), E44, E45, E46, E47, (64, .agg (m0_ref03_Mem r9)), (65, .one .top (.int .i64 r10))], [B9, B10, B11, B43], H⟩ ?_
  exact ye
  refine ysg ⟨[E5, E7, E8, E20, E48], [B10, B11, B43, B49], H⟩ ?_
  refine w_seq ?_
  refine ysg ⟨[E5, E7, E8, E20, E48, (19, .one .top (.int .i64 0))], [B10, B11, B43, B49], H⟩ ?_
  refine w_block ?_
  obtain ⟨r20, hL21, hF⟩ := bind1_inv hF
  refine w_loop (fun (x : (Int × T_ref03_Mem × T_ref04_Cpu)) => (⟨[E5, E7, E8, E20, E48, (19, .one .top (.int .i64 x.1))], [B10, B11, (17, (m0_ref03_Mem x.2.1)), (18, (m1_ref04_Cpu x.2.2))], H⟩ : St)) (fun (y : (T_ref03_Mem × T_ref04_Cpu)) => ((.exit 0, (⟨[E7, E8, E20, E48], [B10, B11, (17, (m0_ref03_Mem y.1)), (18, (m1_ref04_Cpu y.2))], H⟩ : St)) : Ex × St)) hL21 (by kernel_rfl) ?_ ?_
  rintro ⟨a12, a13, a14⟩ o hF
  replace hF : ref19_Run_L1 p5 a12 a13 a14 = some o := hF
  let E50 : EN := (19, .one .top (.int .i64 a12))
  let B51 : EB := (17, (m0_ref03_Mem a13))
  let B52 : EB := (18, (m1_ref04_Cpu a14))
  let E53 : EN := (69, .one .top (.int .i64 a12))
  let E57 : EN := (80, .agg (m1_ref04_Cpu a14))
  let E58 : EN := (81, .agg (m0_ref03_Mem a13))
  let S72 : St := ⟨[E5, E7, E8, E20, E48, E50, E57, E58], [B10, B11, B51, B52], H⟩
  unfold ref19_Run_L1 at hF
  refine w_seq ?_
  refine yso ⟨[E5, E7, E8, E20, E48, E50, (76, .one .top (.bool ((decide (a12 < p5)) && (a14.State_ == 0))))], [B10, B11, B51, B52], H⟩ ?_ ?_
  refine yr 4 ⟨[E5, E7, E8, E20, E48, E50, E53, E54, (71, .one .top (.bool (decide (a12 < p5)))), (72, .one .top (.bool (decide (a12 < p5))))], [B10, B11, B51, B52], H⟩ ?_
  rcases bool_cases (decide (a12 < p5)) with h15 | h15
  refine o_eq (congrArg (fun q => (⟨[E5, E7, E8, E20, E48, E50, E53, E54, (71, .one .top (.bool q)), (72, .one .top (.bool q))], [B10, B11, B51, B52], H⟩ : St)) h15) ?_
  refine yr 4 ⟨[E5, E7, E8, E20, E48, E50, E53, E54, (71, .one .top (.bool true)), (72, .one .top (.bool true)), (73, .one .top (.loc 18 19)), (74, .one .top (.int .i64 a14.State_)), (75, .one .top (.bool (a14.State_ == 0))), (76, .one .top (.bool (a14.State_ == 0)))], [B10, B11, B51, B52], H⟩ ?_
  refine o_eq2 (congrArg (fun q0 => (⟨[E5, E7, E8, E20, E48, E50, (76, .one .top (.bool q0))], [B10, B11, B51, B52], H⟩ : St)) (show (a14.State_ == 0) = ((decide (a12 < p5)) && (a14.State_ == 0)) by simp [h15])) ?_
  exact ye
  refine o_eq (congrArg (fun q => (⟨[E5, E7, E8, E20, E48, E50, E53, E54, (71, .one .top (.bool q)), (72, .one .top (.bool q))], [B10, B11, B51, B52], H⟩ : St)) h15) ?_
  refine yr 4 ⟨[E5, E7, E8, E20, E48, E50, E53, E54, (71, .one .top (.bool false)), (72, .one .top (.bool false)), (73, .tup []), (74, .tup []), (75, .tup []), (76, .one .top (.bool false))], [B10, B11, B51, B52], H⟩ ?_
  refine o_eq2 (congrArg (fun q0 => (⟨[E5, E7, E8, E20, E48, E50, (76, .one .top (.bool q0))], [B10, B11, B51, B52], H⟩ : St)) (show false = ((decide (a12 < p5)) && (a14.State_ == 0)) by simp [h15])) ?_
  exact ye
  rcases if_inv hF with ⟨h16, hF⟩ | ⟨h16, hF⟩
  refine yT h16 ⟨[E5, E7, E8, E20, E48, E50], [B10, B11, B51, B52], H⟩ ?_
  refine w_skip ?_
  refine w_seq ?_
  refine w_block ?_
  obtain ⟨r17, r18, c19, hF⟩ := bind2_inv hF
  let B55 : EB := (17, (m0_ref03_Mem r18))
  let B56 : EB := (18, (m1_ref04_Cpu r17))
  let E59 : EN := (82, .tup [.agg (m1_ref04_Cpu r17), .agg (m0_ref03_Mem r18)])
  refine w_regO ⟨[E5, E7, E8, E20, E48, E50], [B10, B11, B55, B56], H⟩ ?_ ?_
  refine yr 2 S72 ?_
  refine o_one ⟨[E5, E7, E8, E20, E48, E50, E57, E58, E59], [B10, B11, B51, B52], H⟩ (yc (some 82) true false S72 (ok_ref04_Step H c19)) ?_
  refine yr 5 ⟨[E5, E7, E8, E20, E48, E50, (79, .tup [.agg (m1_ref04_Cpu r17), .agg (m0_ref03_Mem r18)]), E57, E58, E59, (83, .agg (m1_ref04_Cpu r17)), (84, .agg (m0_ref03_Mem r18))], [B10, B11, B55, B56], H⟩ ?_
  exact ye
  refine yg ⟨[E5, E7, E8, E20, E48, (19, .one .top (.int .i64 (IntKind.wrap .i64 (a12 + 1))))], [B10, B11, B55, B56], H⟩ ?_
  cases hF
  exact ⟨_, rfl, (by kernel_rfl)⟩
  refine yF h16 ⟨[E7, E8, E20, E48], [B10, B11, B51, B52], H⟩ ?_
  refine w_exit ?_
  cases hF
  exact ⟨_, rfl, (by kernel_rfl)⟩
  obtain ⟨b22, b23⟩ := r20
  replace hF := tup2_inv hF
  let B60 : EB := (17, (m0_ref03_Mem b22))
  let B61 : EB := (18, (m1_ref04_Cpu b23))
  let B62 : EB := (12, (m1_ref04_Cpu b23))
  let E63 : EN := (85, .agg (m1_ref04_Cpu b23))
  let E64 : EN := (86, .agg (m0_ref03_Mem b22))
  refine w_oe (i := 0) (s := (⟨[E7, E8, E20, E48], [B10, B11, B60, B61], H⟩ : St)) (by kernel_rfl) ?_
  refine e_here ?_
  refine w_seq ?_
  refine w_regD (.take 0 (.take 1 (.last 2 (.last 3 .done)))) (by kernel_rfl) (⟨[E7, E8], [B62, (13, (m0_ref03_Mem b22))], H⟩ : St) ?_ ?_
  refine ydt ⟨[E7, E8, E20, E48, E63], [B10, B11, B60, B61], H⟩ ?_
  refine ydt ⟨[E7, E8, E20, E48, E63, E64], [B10, B11, B60, B61], H⟩ ?_
  refine ydl ⟨[E7, E8, E20, E48, E63, E64], [B62, B11, B60, B61], H⟩ ?_
  refine ydl ⟨[E7, E8, E20, E48, E63, E64], [B62, (13, (m0_ref03_Mem b22)), B60, B61], H⟩ ?_
  exact yde
  refine w_ret ?_
  obtain ⟨e0, e1⟩ := some2_inv hF
  subst e0
  subst e1
  exact yp (.tup [.agg (m1_ref04_Cpu b23), .agg (m0_ref03_Mem b22)])
noncomputable def law19_ItemReaches_j1 (i10 : Nat) (o11 : Nat) (r18 : Int) (p0 : Int) (v5 : Int) (p2 : T_scope_Object) (H24 : Heap) : Option (Heap × Bool) :=
  bind3 (law19_ended H24 (Ptr.at i10 o11) 0) fun H28 r25 r26 =>
  if ((!r26) || (r18 != 0)) = true then (some (H28, false))
  else (bind2 (law19_chain (r25.length : Int) (IntKind.wrap .i64 (1 + (IntKind.wrap .i64 (Int.tmod p0 12))))) fun r31 r32 =>
  bind1 (gi r32 (IntKind.wrap .i64 ((IntKind.wrap .i64 (1 + (IntKind.wrap .i64 (Int.tmod p0 12)))) - 1))) fun x34 =>
  bind1 (gi r32 (IntKind.wrap .i64 ((IntKind.wrap .i64 (1 + (IntKind.wrap .i64 (Int.tmod p0 12)))) - 1))) fun x36 =>
  bind2 (ref19_Run r25 ([] : List Int) 0 r31 (arrL [0, 0, 0, 0, 0, 0, 0, 0, 0, 0, 0, 0, 0, x34, 0, (IntKind.wrap .u32 (x36 - 64))] : Arr 16 Int) 5000) fun r38 r39 =>
  bind1 (gi r32 v5) fun x41 =>
  bind2 (ref03_Load r39 (IntKind.wrap .u32 (x41 + (IntKind.wrap .u32 (IntKind.wrap .i32 (IntKind.wrap .i64 (4 * (Int.tmod (IntKind.wrap .i64 p2.N_) 5)))))))) fun r43 r44 =>
  some (H28, ((r38.State_ == 1) && ((r38.Cause_ == 0) && ((r44 == 0) && ((r38.R_.g 0) == r43))))))
noncomputable def law19_ItemReaches (H : Heap) (p0 : Int) (p1 : Int) (p2 : T_scope_Object) : Option (Heap × Bool) :=
  bind2 (law19_awake H) fun H3 r1 =>
  if (!r1) = true then (some (H3, false))
  else (bind1 (remI .i64 (IntKind.wrap .i64 p1) (IntKind.wrap .i64 (1 + (IntKind.wrap .i64 (Int.tmod p0 12))))) fun v5 =>
  bind2 (law19_begun H3) fun H9 r7 =>
  (r7).bnd fun i10 o11 =>
  bind1 (get_item_Gen H9 i10 o11) fun x13 =>
  bnd (set_item_Gen H9 i10 o11 (T_item_Gen.mk x13.Code_ (IntKind.wrap .i64 (1 + (IntKind.wrap .i64 (Int.tmod p0 12)))) x13.Proc_)) fun H15 =>
  bind2 (item_Gen_Address H15 (Ptr.at i10 o11) (T_scope_Object.mk p2.Name_ p2.Kind_ p2.Type_ (IntKind.wrap .i64 (v5 + 1)) (IntKind.wrap .i32 (IntKind.wrap .i64 (4 * (Int.tmod (IntKind.wrap .i64 p2.N_) 5)))) 0 p2.Out_ p2.Params_)) fun H20 r18 =>
  if ((p2.Kind_ != 3) && ((p2.Kind_ != 4) && (p2.Kind_ != 5))) = true then (some (H20, (r18 == 111)))
  else (if (p2.Kind_ != 5) = true then (bind1 (item_Gen_Load H20 (Ptr.at i10 o11)) fun H51 =>
  law19_ItemReaches_j1 i10 o11 r18 p0 v5 p2 H51)
  else (law19_ItemReaches_j1 i10 o11 r18 p0 v5 p2 H20)))
theorem ok_law19_ItemReaches (H : Heap) {p0 : Int} {p1 : Int} {p2 : T_scope_Object} {ra : Bool} {Hr : Heap} (hF : law19_ItemReaches H p0 p1 p2 = some (Hr, ra)) : evS X 8 [.one .top (.int .u8 p0), .one .top (.int .u8 p1), .agg (m0_scope_Object p2)] H = some (.one .top (.bool ra), Hr) := by
  let E1 : EN := (0, .one .top (.int .u8 p0))
  let E2 : EN := (1, .one .top (.int .u8 p1))
  let E3 : EN := (5, .one .top (.loc 5 0))
  let B4 : EB := (5, (m0_scope_Object p2))
  let E6 : EN := (6, .one .top (.bool false))
  let E7 : EN := (7, .one .top (.int .i64 (IntKind.wrap .i64 (1 + (IntKind.wrap .i64 (Int.tmod p0 12))))))
  let E9 : EN := (27, .one .top (.int .u8 p1))
  let E10 : EN := (28, .one .top (.int .i64 (IntKind.wrap .i64 p1)))
  let E11 : EN := (29, .one .top (.int .i64 (IntKind.wrap .i64 (1 + (IntKind.wrap .i64 (Int.tmod p0 12))))))
  let E13 : EN := (9, .one .top (.int .i32 (IntKind.wrap .i32 (IntKind.wrap .i64 (4 * (Int.tmod (IntKind.wrap .i64 p2.N_) 5))))))
  let E18 : EN := (45, .one .top (.int .i64 (IntKind.wrap .i64 (1 + (IntKind.wrap .i64 (Int.tmod p0 12))))))
  let E26 : EN := (51, .one .top (.loc 5 1))
  let E27 : EN := (52, .one .top (.int .i64 p2.Kind_))
  let E28 : EN := (53, .one .top (.bool true))
  let E29 : EN := (54, .one .top (.bool true))
  let E30 : EN := (55, .one .top (.loc 5 1))
  let E31 : EN := (56, .one .top (.int .i64 p2.Kind_))
  let E32 : EN := (58, .one .top (.bool false))
  let E33 : EN := (59, .one .top (.bool false))
  let E34 : EN := (63, .one .top (.bool false))
  let E44 : EN := (85, .one .top (.int .i64 (IntKind.wrap .i64 (1 + (IntKind.wrap .i64 (Int.tmod p0 12))))))
  let E45 : EN := (16, .one .top (.loc 16 0))
  let B46 : EB := (16, (List.replicate 16 (.top, .int .u32 0)))
  let E49 : EN := (90, .one .top (.int .i64 (IntKind.wrap .i64 (1 + (IntKind.wrap .i64 (Int.tmod p0 12))))))
  let E50 : EN := (91, .one .top (.int .i64 (IntKind.wrap .i64 ((IntKind.wrap .i64 (1 + (IntKind.wrap .i64 (Int.tmod p0 12)))) - 1))))
  let E53 : EN := (95, .one .top (.int .i64 (IntKind.wrap .i64 (1 + (IntKind.wrap .i64 (Int.tmod p0 12))))))
  let E54 : EN := (96, .one .top (.int .i64 (IntKind.wrap .i64 ((IntKind.wrap .i64 (1 + (IntKind.wrap .i64 (Int.tmod p0 12)))) - 1))))
  let E59 : EN := (100, .one .top (.loc 16 13))
  let E60 : EN := (101, .one .top (.loc 16 15))
  let E62 : EN := (17, .one .top (.loc 17 0))
  let E63 : EN := (18, .one .top (.loc 18 0))
  let E76 : EN := (115, .one .top (.int .i32 (IntKind.wrap .i32 (IntKind.wrap .i64 (4 * (Int.tmod (IntKind.wrap .i64 p2.N_) 5))))))
  let E77 : EN := (116, .one .top (.int .u32 (IntKind.wrap .u32 (IntKind.wrap .i32 (IntKind.wrap .i64 (4 * (Int.tmod (IntKind.wrap .i64 p2.N_) 5)))))))
  let E84 : EN := (121, .one .top (.loc 17 19))
  let E86 : EN := (123, .one .top (.bool true))
  let E87 : EN := (124, .one .top (.bool true))
  let E88 : EN := (125, .one .top (.loc 17 18))
  let E90 : EN := (127, .one .top (.bool true))
  let E91 : EN := (128, .one .top (.bool true))
  let E92 : EN := (129, .one .top (.bool true))
  let E94 : EN := (132, .one .top (.bool false))
  let E95 : EN := (133, .one .top (.bool false))
  let E96 : EN := (139, .one .top (.bool false))
  let E97 : EN := (128, .one .top (.bool false))
  let E98 : EN := (129, .one .top (.bool false))
  let S100 : St := ⟨[E1, E2, E3], [B4], H⟩
  refine yf Try.func8 false ⟨[E1, E2, (2, .agg (m0_scope_Object p2))], [], H⟩ ?_
  unfold law19_ItemReaches at hF
  refine ysg S100 ?_
  refine w_seq ?_
  refine w_seq ?_
  obtain ⟨H3, r1, c2, hF⟩ := bind2_inv hF
  let E5 : EN := (22, .one .top (.bool (!r1)))
  let S101 : St := ⟨[E2, E3, E7, E9, E10, E11], [B4], H3⟩
  refine w_regO ⟨[E1, E2, E3, E5], [B4], H3⟩ ?_ ?_
  refine o_one ⟨[E1, E2, E3, (21, .one .top (.bool r1))], [B4], H3⟩ (yc (some 21) false false S100 (ok_law19_awake H c2)) ?_
  refine yr 1 ⟨[E1, E2, E3, (21, .one .top (.bool r1)), E5], [B4], H3⟩ ?_
  exact ye
  rcases if_inv hF with ⟨h4, hF⟩ | ⟨h4, hF⟩
  refine yT h4 ⟨[], [], H3⟩ ?_
  refine ysg ⟨[E6], [], H3⟩ ?_
  refine w_ret ?_
  obtain ⟨e0, e1⟩ := some2_inv hF
  subst e0
  subst e1
  exact yi (.one .top (.bool false))
  refine yF h4 ⟨[E1, E2, E3], [B4], H3⟩ ?_
  refine w_skip ?_
  refine ysg ⟨[E2, E3, E7], [B4], H3⟩ ?_
  refine w_seq ?_
  obtain ⟨v5, h6, hF⟩ := bind1_inv hF
  let E8 : EN := (8, .one .top (.int .i64 v5))
  let E12 : EN := (30, .one .top (.int .i64 v5))
  let B14 : EB := (5, [(.top, .str p2.Name_), (.top, .int .i64 p2.Kind_), (.top, .int .i64 p2.Type_), (.top, .int .i64 (IntKind.wrap .i64 (v5 + 1))), (.top, .int .i32 (IntKind.wrap .i32 (IntKind.wrap .i64 (4 * (Int.tmod (IntKind.wrap .i64 p2.N_) 5))))), (.top, .int .i64 0), (.top, .bool p2.Out_), (.ro, .sl 2 (List.map e_api_Param p2.Params_))])
  let E24 : EN := (49, .agg [(.top, .str p2.Name_), (.top, .int .i64 p2.Kind_), (.top, .int .i64 p2.Type_), (.top, .int .i64 (IntKind.wrap .i64 (v5 + 1))), (.top, .int .i32 (IntKind.wrap .i32 (IntKind.wrap .i64 (4 * (Int.tmod (IntKind.wrap .i64 p2.N_) 5))))), (.top, .int .i64 0), (.top, .bool p2.Out_), (.ro, .sl 2 (List.map e_api_Param p2.Params_))])
  let E74 : EN := (112, .one .top (.int .i64 v5))
  let S102 : St := ⟨[E3, E7, E8, E13], [B14], H3⟩
  refine w_regO ⟨[E3, E7, E8], [B4], H3⟩ ?_ ?_
  refine yr 3 S101 ?_
  refine o_one ⟨[E2, E3, E7, E9, E10, E11, E12], [B4], H3⟩ (st_binI S101 .i64 h6 (ev_rem (P := X.P) (ty := 3) (x := (.tmp 28)) (y := (.tmp 29)) (m := .top) (m' := .top) (k := .i64) (a := (IntKind.wrap .i64 p1)) (b := (IntKind.wrap .i64 (1 + (IntKind.wrap .i64 (Int.tmod p0 12)))))) (some 30) (by kernel_rfl) (by kernel_rfl)) ?_
  refine yr 1 ⟨[E2, E3, E7, E8, E9, E10, E11, E12], [B4], H3⟩ ?_
  exact ye
  refine ysg ⟨[E3, E7, E8, E13], [B4], H3⟩ ?_
  refine ysg S102 ?_
  refine w_seq ?_
  obtain ⟨H9, r7, c8, hF⟩ := bind2_inv hF
  let E15 : Ptr → EN := fun z0 => (10, .one .top (Ptr.av z0))
  let E16 : Ptr → EN := fun z0 => (43, .one .top (Ptr.av z0))
  refine w_regO ⟨[E3, E7, E8, E13, (E15 r7)], [B14], H9⟩ ?_ ?_
  refine o_one ⟨[E3, E7, E8, E13, (E16 r7)], [B14], H9⟩ (st_call (d := (some 43)) (fz := false) (pure := false) (own := false) S102 (ok_law19_begun H3 c8) (by generalize r7 = qp0; cases qp0 <;> kernel_rfl) (by generalize r7 = qp0; cases qp0 <;> kernel_rfl)) ?_
  refine yr 1 ⟨[E3, E7, E8, E13, (E15 r7), (E16 r7)], [B14], H9⟩ ?_ (h := (by generalize r7 = qp0; cases qp0 <;> kernel_rfl))
  exact ye
  refine w_seq ?_
  obtain ⟨i10, o11, h12, hF⟩ := pbnd_inv hF
  let E17 : EN := (10, .one .top (.obj i10 o11))
  let E19 : EN := (44, .one .top (.obj i10 o11))
  let E20 : EN := (46, .one .top (.obj i10 o11))
  let E21 : EN := (47, .one .top (.obj i10 (o11 + 1)))
  let E23 : EN := (48, .one .top (.obj i10 o11))
  let E37 : EN := (72, .one .top (.obj i10 o11))
  let E99 : EN := (69, .one .top (.obj i10 o11))
  let S103 : St := ⟨[E3, E7, E8, E13, E17, E19, E18, E20, E21], [B14], H9⟩
  obtain ⟨x13, V14, hF⟩ := bind1_inv hF
  replace V14 := hgetT_inv V14
  obtain ⟨H15, h16, hF⟩ := bnd_inv hF
  let S105 : St := ⟨[E3, E7, E8, E13, E17, E23, E24], [B14], H15⟩
  have V17 : hget H15 i10 o11 6 = some (o_item_Gen (T_item_Gen.mk x13.Code_ (IntKind.wrap .i64 (1 + (IntKind.wrap .i64 (Int.tmod p0 12)))) x13.Proc_)) := by rw [← h16]; exact hset_get V14 rfl
  refine w_regO ⟨[E3, E7, E8, E13, E17], [B14], H15⟩ ?_ ?_
  refine yr 2 ⟨[E3, E7, E8, E13, (E15 r7), (44, .one .top (Ptr.av r7)), E18], [B14], H9⟩ ?_ (h := (by generalize r7 = qp0; cases qp0 <;> kernel_rfl))
  refine o_eq (congrArg (fun q => (⟨[E3, E7, E8, E13, (10, .one .top (Ptr.av q)), (44, .one .top (Ptr.av q)), E18], [B14], H9⟩ : St)) h12) ?_
  refine yr 1 ⟨[E3, E7, E8, E13, E17, E19, E18, E20], [B14], H9⟩ ?_
  refine yr 1 S103 ?_ (h := (by generalize x13.Code_ = qp0; generalize x13.Proc_.frame_ = qp1; cases qp0 <;> cases qp1 <;> kernel_rfl))
  refine o_one ⟨[E3, E7, E8, E13, E17, E19, E18, E20, E21], [B14], (hset H9 i10 o11 [(.top, (Ptr.av x13.Code_)), (.top, .int .i64 (IntKind.wrap .i64 (1 + (IntKind.wrap .i64 (Int.tmod p0 12))))), (.top, .int .i64 x13.Proc_.need_), (.top, .int .i64 x13.Proc_.size_), ((.own 1), .sl 1 (List.map (eI .i64) x13.Proc_.resets_)), (.top, (Ptr.av x13.Proc_.frame_))])⟩ (st_st (X := X) (lc := []) (h2 := (hset H9 i10 o11 [(.top, (Ptr.av x13.Code_)), (.top, .int .i64 (IntKind.wrap .i64 (1 + (IntKind.wrap .i64 (Int.tmod p0 12))))), (.top, .int .i64 x13.Proc_.need_), (.top, .int .i64 x13.Proc_.size_), ((.own 1), .sl 1 (List.map (eI .i64) x13.Proc_.resets_)), (.top, (Ptr.av x13.Proc_.frame_))])) S103 3 V14 1 1 (.one .top (.int .i64 (IntKind.wrap .i64 (1 + (IntKind.wrap .i64 (Int.tmod p0 12)))))) (by generalize x13.Code_ = qp0; generalize x13.Proc_.frame_ = qp1; cases qp0 <;> cases qp1 <;> kernel_rfl) (by generalize x13.Code_ = qp0; generalize x13.Proc_.frame_ = qp1; cases qp0 <;> cases qp1 <;> kernel_rfl) (by generalize x13.Code_ = qp0; generalize x13.Proc_.frame_ = qp1; cases qp0 <;> cases qp1 <;> kernel_rfl) (by generalize x13.Code_ = qp0; generalize x13.Proc_.frame_ = qp1; cases qp0 <;> cases qp1 <;> kernel_rfl) (by generalize x13.Code_ = qp0; generalize x13.Proc_.frame_ = qp1; cases qp0 <;> cases qp1 <;> kernel_rfl) (by generalize x13.Code_ = qp0; generalize x13.Proc_.frame_ = qp1; cases qp0 <;> cases qp1 <;> kernel_rfl) (hset_sub0 V14 (Nat.le_of_ble_eq_true rfl)) (by generalize x13.Code_ = qp0; generalize x13.Proc_.frame_ = qp1; cases qp0 <;> cases qp1 <;> kernel_rfl)) ?_
  refine o_eq (congrArg (fun q => (⟨[E3, E7, E8, E13, E17, E19, E18, E20, E21], [B14], q⟩ : St)) h16) ?_
  exact ye
  refine w_seq ?_
  obtain ⟨H20, r18, c19, hF⟩ := bind2_inv hF
  let E22 : EN := (11, .one .top (.int .i64 r18))
  let E25 : EN := (50, .one .top (.int .i64 r18))
  let S104 : St := ⟨[E3, E7, E8, E13, E17, E22], [B14], H20⟩
  let S118 : St := ⟨[E7, E8, E13, E17, E22], [], H20⟩
  let S119 : St := ⟨[E7, E8, E13, E17, E22, E99], [], H20⟩
  refine w_regO S104 ?_ ?_
  refine yr 2 S105 ?_ (h := (by generalize x13.Code_ = qp0; generalize x13.Proc_.frame_ = qp1; cases qp0 <;> cases qp1 <;> kernel_rfl))
  refine o_one ⟨[E3, E7, E8, E13, E17, E23, E24, E25], [B14], H20⟩ (st_call (d := (some 50)) (fz := false) (pure := false) (own := false) S105 (ok_item_Gen_Address H15 c19) (by generalize x13.Code_ = qp0; generalize x13.Proc_.frame_ = qp1; cases qp0 <;> cases qp1 <;> kernel_rfl) (by generalize x13.Code_ = qp0; generalize x13.Proc_.frame_ = qp1; cases qp0 <;> cases qp1 <;> kernel_rfl)) ?_
  refine yr 1 ⟨[E3, E7, E8, E13, E17, E22, E23, E24, E25], [B14], H20⟩ ?_
  exact ye
  refine w_seq ?_
  refine yso ⟨[E3, E7, E8, E13, E17, E22, (63, .one .top (.bool ((p2.Kind_ != 3) && ((p2.Kind_ != 4) && (p2.Kind_ != 5)))))], [B14], H20⟩ ?_ ?_
  refine yr 4 ⟨[E3, E7, E8, E13, E17, E22, E26, E27, (53, .one .top (.bool (p2.Kind_ != 3))), (54, .one .top (.bool (p2.Kind_ != 3)))], [B14], H20⟩ ?_
  rcases bool_cases (p2.Kind_ != 3) with h21 | h21
  refine o_eq (congrArg (fun q => (⟨[E3, E7, E8, E13, E17, E22, E26, E27, (53, .one .top (.bool q)), (54, .one .top (.bool q))], [B14], H20⟩ : St)) h21) ?_
  refine yr 5 ⟨[E3, E7, E8, E13, E17, E22, E26, E27, E28, E29, E30, E31, (57, .one .top (.bool (p2.Kind_ != 4))), (58, .one .top (.bool (p2.Kind_ != 4))), (59, .one .top (.bool (p2.Kind_ != 4)))], [B14], H20⟩ ?_
  rcases bool_cases (p2.Kind_ != 4) with h22 | h22
  refine o_eq (congrArg (fun q => (⟨[E3, E7, E8, E13, E17, E22, E26, E27, E28, E29, E30, E31, (57, .one .top (.bool q)), (58, .one .top (.bool q)), (59, .one .top (.bool q))], [B14], H20⟩ : St)) h22) ?_
  refine yr 4 ⟨[E3, E7, E8, E13, E17, E22, E26, E27, E28, E29, E30, E31, (57, .one .top (.bool true)), (58, .one .top (.bool true)), (59, .one .top (.bool true)), (60, .one .top (.loc 5 1)), (61, .one .top (.int .i64 p2.Kind_)), (62, .one .top (.bool (p2.Kind_ != 5))), (63, .one .top (.bool (p2.Kind_ != 5)))], [B14], H20⟩ ?_
  refine o_eq2 (congrArg (fun q0 => (⟨[E3, E7, E8, E13, E17, E22, (63, .one .top (.bool q0))], [B14], H20⟩ : St)) (show (p2.Kind_ != 5) = ((p2.Kind_ != 3) && ((p2.Kind_ != 4) && (p2.Kind_ != 5))) by simp [h21, h22])) ?_
  exact ye
  refine o_eq (congrArg (fun q => (⟨[E3, E7, E8, E13, E17, E22, E26, E27, E28, E29, E30, E31, (57, .one .top (.bool q)), (58, .one .top (.bool q)), (59, .one .top (.bool q))], [B14], H20⟩ : St)) h22) ?_
  refine yr 4 ⟨[E3, E7, E8, E13, E17, E22, E26, E27, E28, E29, E30, E31, (57, .one .top (.bool false)), E32, E33, (60, .tup []), (61, .tup []), (62, .tup []), E34], [B14], H20⟩ ?_
  refine o_eq2 (congrArg (fun q0 => (⟨[E3, E7, E8, E13, E17, E22, (63, .one .top (.bool q0))], [B14], H20⟩ : St)) (show false = ((p2.Kind_ != 3) && ((p2.Kind_ != 4) && (p2.Kind_ != 5))) by simp [h21, h22])) ?_
  exact ye
  refine o_eq (congrArg (fun q => (⟨[E3, E7, E8, E13, E17, E22, E26, E27, (53, .one .top (.bool q)), (54, .one .top (.bool q))], [B14], H20⟩ : St)) h21) ?_
  refine yr 9 ⟨[E3, E7, E8, E13, E17, E22, E26, E27, (53, .one .top (.bool false)), (54, .one .top (.bool false)), (55, .tup []), (56, .tup []), (57, .tup []), E32, E33, (60, .tup []), (61, .tup []), (62, .tup []), E34], [B14], H20⟩ ?_
  refine o_eq2 (congrArg (fun q0 => (⟨[E3, E7, E8, E13, E17, E22, (63, .one .top (.bool q0))], [B14], H20⟩ : St)) (show false = ((p2.Kind_ != 3) && ((p2.Kind_ != 4) && (p2.Kind_ != 5))) by simp [h21])) ?_
  exact ye
  rcases if_inv hF with ⟨h23, hF⟩ | ⟨h23, hF⟩
  refine yT h23 ⟨[E22], [], H20⟩ ?_
  refine ysg ⟨[(6, .one .top (.bool (r18 == 111)))], [], H20⟩ ?_
  refine w_ret ?_
  obtain ⟨e0, e1⟩ := some2_inv hF
  subst e0
  subst e1
  exact yi (.one .top (.bool (r18 == 111)))
  refine yF h23 S104 ?_
  refine w_skip ?_
  refine w_seq ?_
  refine ysg ⟨[E7, E8, E13, E17, E22, (68, .one .top (.bool (p2.Kind_ != 5)))], [], H20⟩ ?_
  refine w_join (α := (Heap)) (fun x => (⟨[E7, E8, E13, E17, E22], [], x⟩ : St)) (fun x => law19_ItemReaches_j1 i10 o11 r18 p0 v5 p2 x = some (Hr, ra)) ?_ ?_
  rintro H24 hF
  replace hF : law19_ItemReaches_j1 i10 o11 r18 p0 v5 p2 H24 = some (Hr, ra) := hF
  let S106 : St := ⟨[E7, E8, E13, E17, E22, E37], [], H24⟩
  unfold law19_ItemReaches_j1 at hF
  refine w_seq ?_
  obtain ⟨H28, r25, r26, c27, hF⟩ := bind3_inv hF
  let E35 : EN := (12, .one .bl (.sl 1 (List.map (eI .u32) r25)))
  let E36 : EN := (13, .one .top (.bool r26))
  let E38 : EN := (73, .tup [.one (.own 1) (.sl 1 (List.map (eI .u32) r25)), .one .top (.bool r26)])
  let E39 : EN := (76, .one .top (.bool r26))
  let E42 : EN := (83, .one .bl (.sl 1 (List.map (eI .u32) r25)))
  let E43 : EN := (84, .one .top (.int .i64 (r25.length : Int)))
  let E66 : EN := (103, .one .bl (.sl 1 (List.map (eI .u32) r25)))
  let S107 : St := ⟨[E7, E8, E13, E35, E42], [], H28⟩
  let S108 : St := ⟨[E7, E8, E13, E35, E42, E43, E44], [], H28⟩
  refine w_regO ⟨[E7, E8, E13, E22, E35, E36], [], H28⟩ ?_ ?_
  refine yr 1 S106 ?_
  refine o_one ⟨[E7, E8, E13, E17, E22, E37, E38], [], H28⟩ (yc (some 73) false false S106 (ok_law19_ended H24 c27)) ?_
  refine yr 5 ⟨[E7, E8, E13, E17, E22, E35, E36, (71, .tup [.one .bl (.sl 1 (List.map (eI .u32) r25)), .one .top (.bool r26)]), E37, E38, (74, .one .bl (.sl 1 (List.map (eI .u32) r25))), (75, .one .top (.bool r26))], [], H28⟩ ?_
  exact ye
  refine w_seq ?_
  refine yso ⟨[E7, E8, E13, E35, (81, .one .top (.bool ((!r26) || (r18 != 0))))], [], H28⟩ ?_ ?_
  refine yr 3 ⟨[E7, E8, E13, E22, E35, E36, E39, (77, .one .top (.bool (!r26))), (78, .one .top (.bool (!r26)))], [], H28⟩ ?_
  rcases bool_cases (!r26) with h29 | h29
  refine o_eq (congrArg (fun q => (⟨[E7, E8, E13, E22, E35, E36, E39, (77, .one .top (.bool q)), (78, .one .top (.bool q))], [], H28⟩ : St)) h29) ?_
  refine yr 3 ⟨[E7, E8, E13, E22, E35, E36, E39, (77, .one .top (.bool true)), (78, .one .top (.bool true)), (79, .tup []), (80, .tup []), (81, .one .top (.bool true))], [], H28⟩ ?_
  refine o_eq2 (congrArg (fun q0 => (⟨[E7, E8, E13, E35, (81, .one .top (.bool q0))], [], H28⟩ : St)) (show true = ((!r26) || (r18 != 0)) by simp [h29])) ?_
  exact ye
  refine o_eq (congrArg (fun q => (⟨[E7, E8, E13, E22, E35, E36, E39, (77, .one .top (.bool q)), (78, .one .top (.bool q))], [], H28⟩ : St)) h29) ?_
  refine yr 3 ⟨[E7, E8, E13, E22, E35, E36, E39, (77, .one .top (.bool false)), (78, .one .top (.bool false)), (79, .one .top (.int .i64 r18)), (80, .one .top (.bool (r18 != 0))), (81, .one .top (.bool (r18 != 0)))], [], H28⟩ ?_
  refine o_eq2 (congrArg (fun q0 => (⟨[E7, E8, E13, E35, (81, .one .top (.bool q0))], [], H28⟩ : St)) (show (r18 != 0) = ((!r26) || (r18 != 0)) by simp [h29])) ?_
  exact ye
  rcases if_inv hF with ⟨h30, hF⟩ | ⟨h30, hF⟩
  refine yT h30 ⟨[], [], H28⟩ ?_
  refine ysg ⟨[E6], [], H28⟩ ?_
  refine w_ret ?_
  obtain ⟨e0, e1⟩ := some2_inv hF
  subst e0
  subst e1
  exact yi (.one .top (.bool false))
  refine yF h30 ⟨[E7, E8, E13, E35], [], H28⟩ ?_
  refine w_skip ?_
  refine w_seq ?_
  obtain ⟨r31, r32, c33, hF⟩ := bind2_inv hF
  let E40 : EN := (14, .one (.own 1) (.sl 1 (List.map (eI .u32) r31)))
  let E41 : EN := (15, .one (.own 1) (.sl 1 (List.map (eI .u32) r32)))
  let E48 : EN := (89, .one .bl (.sl 1 (List.map (eI .u32) r32)))
  let E52 : EN := (94, .one .bl (.sl 1 (List.map (eI .u32) r32)))
  let E67 : EN := (104, .one .bl (.sl 1 (List.map (eI .u32) r31)))
  let E73 : EN := (111, .one .bl (.sl 1 (List.map (eI .u32) r32)))
  let S109 : St := ⟨[E7, E8, E13, E35, E40, E41, E45, E48, E49, E50], [B46], H28⟩
  refine w_regO ⟨[E7, E8, E13, E35, E40, E41], [], H28⟩ ?_ ?_
  refine yr 1 S107 ?_
  refine o_one ⟨[E7, E8, E13, E35, E42, E43], [], H28⟩ (yl S107 r25 (eI .u32) (some 84)) ?_
  refine yr 1 S108 ?_
  refine o_one ⟨[E7, E8, E13, E35, E42, E43, E44, (86, .tup [.one (.own 1) (.sl 1 (List.map (eI .u32) r31)), .one (.own 1) (.sl 1 (List.map (eI .u32) r32))])], [], H28⟩ (yc (some 86) true false S108 (ok_law19_chain H28 c33)) ?_
  refine yr 5 ⟨[E7, E8, E13, E35, E40, E41, (82, .tup [.one .top .junk, .one .top .junk]), E42, E43, E44, (86, .tup [.one .top .junk, .one .top .junk]), (87, .one .top .junk), (88, .one .top .junk)], [], H28⟩ ?_
  exact ye
  refine ysg ⟨[E7, E8, E13, E35, E40, E41, E45], [B46], H28⟩ ?_
  refine w_seq ?_
  obtain ⟨x34, h35, hF⟩ := bind1_inv hF
  let E51 : EN := (92, .one .top (.rd .bl .bl [.int .u32 x34] 0))
  let E56 : EN := (93, .one .top (.int .u32 x34))
  let B61 : EB := (16, (List.replicate 13 (.top, .int .u32 0) ++ [(.top, .int .u32 x34), (.top, .int .u32 0), (.top, .int .u32 0)]))
  let S110 : St := ⟨[E7, E8, E13, E35, E40, E41, E45, E48, E49, E50, E51, E52, E53, E54], [B46], H28⟩
  obtain ⟨x36, h37, hF⟩ := bind1_inv hF
  let B47 : EB := (16, (List.replicate 13 (.top, .int .u32 0) ++ [(.top, .int .u32 x34), (.top, .int .u32 0), (.top, .int .u32 (IntKind.wrap .u32 (x36 - 64)))]))
  let E55 : EN := (97, .one .top (.rd .bl .bl [.int .u32 x36] 0))
  let E57 : EN := (98, .one .top (.int .u32 x36))
  let E58 : EN := (99, .one .top (.int .u32 (IntKind.wrap .u32 (x36 - 64))))
  let E68 : EN := (105, .agg (List.replicate 13 (.top, .int .u32 0) ++ [(.top, .int .u32 x34), (.top, .int .u32 0), (.top, .int .u32 (IntKind.wrap .u32 (x36 - 64)))]))
  let S111 : St := ⟨[E7, E8, E13, E35, E40, E41, E45, E48, E49, E50, E51, E56, E52, E53, E54, E55, E57, E58, E59, E60], [B47], H28⟩
  let S112 : St := ⟨[E7, E8, E13, E35, E40, E41, E45, E48, E49, E50, E51, E56, E52, E53, E54, E55, E57, E58, E59], [B46], H28⟩
  let S113 : St := ⟨[E7, E8, E13, E35, E40, E41, E45, E48, E49, E50, E51, E56, E52, E53, E54, E55, E57, E58, E59], [B61], H28⟩
  let S114 : St := ⟨[E7, E8, E13, E35, E40, E41, E45, E48, E49, E50, E51, E56, E52, E53, E54, E55, E57, E58, E59, E60], [B61], H28⟩
  let S115 : St := ⟨[E8, E13, E35, E40, E41, E45, E66, E67, E68], [B47], H28⟩
  let K120 : Sch := .last 12 (.take 13 (.last 14 .done))
  refine w_regD (.take 0 (.take 1 (.take 2 (.take 3 (.take 5 (.take 6 (.take 7 (.take 8 (.alt 4 (.take 11 (.alt 9 (.take 10 K120) (.last 12 (.last 9 (.take 10 (.take 13 (.last 14 .done))))))) (.last 9 (.take 10 (.last 4 (.take 11 K120))))))))))))) (by kernel_rfl) (⟨[E8, E13, E35, E40, E41, E45], [B47], H28⟩ : St) ?_ ?_
  refine ydt ⟨[E7, E8, E13, E35, E40, E41, E45, E48], [B46], H28⟩ ?_
  refine ydt ⟨[E7, E8, E13, E35, E40, E41, E45, E48, E49], [B46], H28⟩ ?_
  refine ydt S109 ?_
  refine d_take ⟨[E7, E8, E13, E35, E40, E41, E45, E48, E49, E50, E51], [B46], H28⟩ (st_ix (X := X) S109 42 35 1 h35 (eI .u32) .bl (some 92) (by kernel_rfl) (by kernel_rfl) (by kernel_rfl) (by kernel_rfl)) ?_
  refine ydt ⟨[E7, E8, E13, E35, E40, E41, E45, E48, E49, E50, E51, E52], [B46], H28⟩ ?_
  refine ydt ⟨[E7, E8, E13, E35, E40, E41, E45, E48, E49, E50, E51, E52, E53], [B46], H28⟩ ?_
  refine ydt S110 ?_
  refine d_take ⟨[E7, E8, E13, E35, E40, E41, E45, E48, E49, E50, E51, E52, E53, E54, E55], [B46], H28⟩ (st_ix (X := X) S110 42 35 1 h37 (eI .u32) .bl (some 97) (by kernel_rfl) (by kernel_rfl) (by kernel_rfl) (by kernel_rfl)) ?_
  refine q_in S111 ?_ ?_
  refine q_alt ⟨[E7, E8, E13, E35, E40, E41, E45, E48, E49, E50, E51, E56, E52, E53, E54, E55], [B46], H28⟩ (by kernel_rfl) ?_ ?_
  refine yqt ⟨[E7, E8, E13, E35, E40, E41, E45, E48, E49, E50, E51, E56, E52, E53, E54, E55, E59], [B46], H28⟩ ?_
  refine q_alt ⟨[E7, E8, E13, E35, E40, E41, E45, E48, E49, E50, E51, E56, E52, E53, E54, E55, E57, E59], [B46], H28⟩ (by kernel_rfl) ?_ ?_
  refine yqt S112 ?_
  refine yql S113 ?_
  refine yqt S114 ?_
  refine yql S111 ?_
  exact yqe
  refine yql ⟨[E7, E8, E13, E35, E40, E41, E45, E48, E49, E50, E51, E56, E52, E53, E54, E55, E59], [B61], H28⟩ ?_
  refine yql ⟨[E7, E8, E13, E35, E40, E41, E45, E48, E49, E50, E51, E56, E52, E53, E54, E55, E57, E59], [B61], H28⟩ ?_
  refine yqt S113 ?_
  refine yqt S114 ?_
  refine yql S111 ?_
  exact yqe
  refine yql ⟨[E7, E8, E13, E35, E40, E41, E45, E48, E49, E50, E51, E52, E53, E54, E55, E57], [B46], H28⟩ ?_
  refine yqt ⟨[E7, E8, E13, E35, E40, E41, E45, E48, E49, E50, E51, E52, E53, E54, E55, E57, E58], [B46], H28⟩ ?_
  refine yql ⟨[E7, E8, E13, E35, E40, E41, E45, E48, E49, E50, E51, E56, E52, E53, E54, E55, E57, E58], [B46], H28⟩ ?_
  refine yqt S112 ?_
  refine yql S113 ?_
  refine yqt S114 ?_
  refine yql S111 ?_
  exact yqe
  kernel_rfl
  refine w_seq ?_
  obtain ⟨r38, r39, c40, hF⟩ := bind2_inv hF
  let B64 : EB := (17, (m1_ref04_Cpu r38))
  let B65 : EB := (18, (m0_ref03_Mem r39))
  let E69 : EN := (106, .tup [.agg (m1_ref04_Cpu r38), .agg (m0_ref03_Mem r39)])
  let E72 : EN := (110, .agg (m0_ref03_Mem r39))
  let E85 : EN := (122, .one .top (.int .i64 r38.State_))
  let E89 : EN := (126, .one .top (.int .u32 r38.Cause_))
  let S116 : St := ⟨[E8, E13, E41, E62, E63, E72, E73, E74], [B64, B65], H28⟩
  refine w_regO ⟨[E8, E13, E41, E62, E63], [B64, B65], H28⟩ ?_ ?_
  refine yr 3 S115 ?_
  refine o_one ⟨[E8, E13, (12, .one .top .junk), E40, E41, E45, (103, .one .top .junk), (104, .one .top .junk), E68, E69], [B47], H28⟩ (yc (some 106) true true S115 (ok_ref19_Run_2 H28 c40)) ?_
  refine yr 7 ⟨[E8, E13, (12, .one .top .junk), E40, E41, E45, E62, E63, (102, .tup [.agg (m1_ref04_Cpu r38), .agg (m0_ref03_Mem r39)]), (103, .one .top .junk), (104, .one .top .junk), E68, E69, (107, .agg (m1_ref04_Cpu r38)), (108, .agg (m0_ref03_Mem r39))], [B47, B64, B65], H28⟩ ?_
  exact ye
  refine w_seq ?_
  obtain ⟨x41, h42, hF⟩ := bind1_inv hF
  let E75 : EN := (113, .one .top (.rd .bl .bl [.int .u32 x41] 0))
  let E78 : EN := (114, .one .top (.int .u32 x41))
  let E79 : EN := (117, .one .top (.int .u32 (IntKind.wrap .u32 (x41 + (IntKind.wrap .u32 (IntKind.wrap .i32 (IntKind.wrap .i64 (4 * (Int.tmod (IntKind.wrap .i64 p2.N_) 5)))))))))
  let S117 : St := ⟨[E8, E13, E41, E62, E63, E72, E73, E74, E75, E78, E76, E77, E79], [B64, B65], H28⟩
  obtain ⟨r43, r44, c45, hF⟩ := bind2_inv hF
  let E70 : EN := (19, .one .top (.int .u32 r43))
  let E71 : EN := (20, .one .top (.int .i64 r44))
  let E80 : EN := (118, .tup [.one .top (.int .u32 r43), .one .top (.int .i64 r44)])
  let E81 : EN := (109, .tup [.one .top (.int .u32 r43), .one .top (.int .i64 r44)])
  let E82 : EN := (119, .one .top (.int .u32 r43))
  let E83 : EN := (120, .one .top (.int .i64 r44))
  let E93 : EN := (130, .one .top (.int .i64 r44))
  refine w_regD (.take 0 (.take 1 (.take 2 (.take 3 (.take 5 (.take 6 (.last 4 (.take 7 (.last 8 (.take 9 (.take 10 (.take 11 (.take 12 (.take 13 .done)))))))))))))) (by kernel_rfl) (⟨[E62, E70, E71], [B64], H28⟩ : St) ?_ ?_
  refine ydt ⟨[E8, E13, E41, E62, E63, E72], [B64, B65], H28⟩ ?_
  refine ydt ⟨[E8, E13, E41, E62, E63, E72, E73], [B64, B65], H28⟩ ?_
  refine ydt S116 ?_
  refine d_take ⟨[E8, E13, E41, E62, E63, E72, E73, E74, E75], [B64, B65], H28⟩ (st_ix (X := X) S116 42 35 1 h42 (eI .u32) .bl (some 113) (by kernel_rfl) (by kernel_rfl) (by kernel_rfl) (by kernel_rfl)) ?_
  refine ydt ⟨[E8, E13, E41, E62, E63, E72, E73, E74, E75, E76], [B64, B65], H28⟩ ?_
  refine ydt ⟨[E8, E13, E41, E62, E63, E72, E73, E74, E75, E76, E77], [B64, B65], H28⟩ ?_
  refine ydl ⟨[E8, E13, E41, E62, E63, E72, E73, E74, E75, E78, E76, E77], [B64, B65], H28⟩ ?_
  refine ydt S117 ?_
  refine d_last ⟨[E8, E13, E41, E62, E63, E72, E73, E74, E75, E78, E76, E77, E79, E80], [B64, B65], H28⟩ (yc (some 118) true false S117 (ok_ref03_Load H28 c45)) ?_
  refine ydt ⟨[E8, E13, E41, E62, E63, E81, E72, E73, E74, E75, E78, E76, E77, E79, E80], [B64, B65], H28⟩ ?_
  refine ydt ⟨[E8, E13, E41, E62, E63, E81, E72, E73, E74, E75, E78, E76, E77, E79, E80, E82], [B64, B65], H28⟩ ?_
  refine ydt ⟨[E8, E13, E41, E62, E63, E81, E72, E73, E74, E75, E78, E76, E77, E79, E80, E82, E83], [B64, B65], H28⟩ ?_
  refine ydt ⟨[E8, E13, E41, E62, E63, E70, E81, E72, E73, E74, E75, E78, E76, E77, E79, E80, E82, E83], [B64, B65], H28⟩ ?_
  refine ydt ⟨[E8, E13, E41, E62, E63, E70, E71, E81, E72, E73, E74, E75, E78, E76, E77, E79, E80, E82, E83], [B64, B65], H28⟩ ?_
  exact yde
  refine yso ⟨[(6, .one .top (.bool ((r38.State_ == 1) && ((r38.Cause_ == 0) && ((r44 == 0) && ((r38.R_.g 0) == r43))))))], [], H28⟩ ?_ ?_
  refine yr 4 ⟨[E62, E70, E71, E84, E85, (123, .one .top (.bool (r38.State_ == 1))), (124, .one .top (.bool (r38.State_ == 1)))], [B64], H28⟩ ?_
  rcases bool_cases (r38.State_ == 1) with h46 | h46
  refine o_eq (congrArg (fun q => (⟨[E62, E70, E71, E84, E85, (123, .one .top (.bool q)), (124, .one .top (.bool q))], [B64], H28⟩ : St)) h46) ?_
  refine yr 5 ⟨[E62, E70, E71, E84, E85, E86, E87, E88, E89, (127, .one .top (.bool (r38.Cause_ == 0))), (128, .one .top (.bool (r38.Cause_ == 0))), (129, .one .top (.bool (r38.Cause_ == 0)))], [B64], H28⟩ ?_
  rcases bool_cases (r38.Cause_ == 0) with h47 | h47
  refine o_eq (congrArg (fun q => (⟨[E62, E70, E71, E84, E85, E86, E87, E88, E89, (127, .one .top (.bool q)), (128, .one .top (.bool q)), (129, .one .top (.bool q))], [B64], H28⟩ : St)) h47) ?_
  refine yr 4 ⟨[E62, E70, E71, E84, E85, E86, E87, E88, E89, E90, E91, E92, E93, (131, .one .top (.bool (r44 == 0))), (132, .one .top (.bool (r44 == 0))), (133, .one .top (.bool (r44 == 0)))], [B64], H28⟩ ?_
  rcases bool_cases (r44 == 0) with h48 | h48
  refine o_eq (congrArg (fun q => (⟨[E62, E70, E71, E84, E85, E86, E87, E88, E89, E90, E91, E92, E93, (131, .one .top (.bool q)), (132, .one .top (.bool q)), (133, .one .top (.bool q))], [B64], H28⟩ : St)) h48) ?_
  refine yr 7 ⟨[(6, .one .top (.bool ((r38.R_.g 0) == r43))), E62, E70, E71, E84, E85, E86, E87, E88, E89, E90, E91, E92, E93, (131, .one .top (.bool true)), (132, .one .top (.bool true)), (133, .one .top (.bool true)), (134, .one .top (.loc 17 0)), (135, .one .top (.loc 17 0)), (136, .one .top (.int .u32 (r38.R_.g 0))), (137, .one .top (.int .u32 r43)), (138, .one .top (.bool ((r38.R_.g 0) == r43))), (139, .one .top (.bool ((r38.R_.g 0) == r43)))], [B64], H28⟩ ?_
  refine o_eq2 (congrArg (fun q0 => (⟨[(6, .one .top (.bool q0))], [], H28⟩ : St)) (show ((r38.R_.g 0) == r43) = ((r38.State_ == 1) && ((r38.Cause_ == 0) && ((r44 == 0) && ((r38.R_.g 0) == r43)))) by simp [h46, h47, h48])) ?_
  exact ye
  refine o_eq (congrArg (fun q => (⟨[E62, E70, E71, E84, E85, E86, E87, E88, E89, E90, E91, E92, E93, (131, .one .top (.bool q)), (132, .one .top (.bool q)), (133, .one .top (.bool q))], [B64], H28⟩ : St)) h48) ?_
  refine yr 7 ⟨[E6, E62, E70, E71, E84, E85, E86, E87, E88, E89, E90, E91, E92, E93, (131, .one .top (.bool false)), E94, E95, (134, .tup []), (135, .tup []), (136, .tup []), (137, .tup []), (138, .tup []), E96], [B64], H28⟩ ?_
  refine o_eq2 (congrArg (fun q0 => (⟨[(6, .one .top (.bool q0))], [], H28⟩ : St)) (show false = ((r38.State_ == 1) && ((r38.Cause_ == 0) && ((r44 == 0) && ((r38.R_.g 0) == r43)))) by simp [h46, h47, h48])) ?_
  exact ye
  refine o_eq (congrArg (fun q => (⟨[E62, E70, E71, E84, E85, E86, E87, E88, E89, (127, .one .top (.bool q)), (128, .one .top (.bool q)), (129, .one .top (.bool q))], [B64], H28⟩ : St)) h47) ?_
  refine yr 11 ⟨[E6, E62, E70, E71, E84, E85, E86, E87, E88, E89, (127, .one .top (.bool false)), E97, E98, (130, .tup []), (131, .tup []), E94, E95, (134, .tup []), (135, .tup []), (136, .tup []), (137, .tup []), (138, .tup []), E96], [B64], H28⟩ ?_
  refine o_eq2 (congrArg (fun q0 => (⟨[(6, .one .top (.bool q0))], [], H28⟩ : St)) (show false = ((r38.State_ == 1) && ((r38.Cause_ == 0) && ((r44 == 0) && ((r38.R_.g 0) == r43)))) by simp [h46, h47])) ?_
  exact ye
  refine o_eq (congrArg (fun q => (⟨[E62, E70, E71, E84, E85, (123, .one .top (.bool q)), (124, .one .top (.bool q))], [B64], H28⟩ : St)) h46) ?_
  refine yr 16 ⟨[E6, E62, E70, E71, E84, E85, (123, .one .top (.bool false)), (124, .one .top (.bool false)), (125, .tup []), (126, .tup []), (127, .tup []), E97, E98, (130, .tup []), (131, .tup []), E94, E95, (134, .tup []), (135, .tup []), (136, .tup []), (137, .tup []), (138, .tup []), E96], [B64], H28⟩ ?_
  refine o_eq2 (congrArg (fun q0 => (⟨[(6, .one .top (.bool q0))], [], H28⟩ : St)) (show false = ((r38.State_ == 1) && ((r38.Cause_ == 0) && ((r44 == 0) && ((r38.R_.g 0) == r43)))) by simp [h46])) ?_
  exact ye
  refine w_ret ?_
  obtain ⟨e0, e1⟩ := some2_inv hF
  subst e0
  subst e1
  exact yi (.one .top (.bool ((r38.State_ == 1) && ((r38.Cause_ == 0) && ((r44 == 0) && ((r38.R_.g 0) == r43))))))
  rcases if_inv hF with ⟨h49, hF⟩ | ⟨h49, hF⟩
  refine yT h49 S118 ?_
  obtain ⟨H51, c50, hF⟩ := bind1_inv hF
  refine w_regO ⟨[E7, E8, E13, E17, E22], [], H51⟩ ?_ ?_
  refine yr 1 S119 ?_
  refine o_one ⟨[E7, E8, E13, E17, E22, E99, (70, .tup [])], [], H51⟩ (yc (some 70) false false S119 (ok_item_Gen_Load H20 c50)) ?_
  exact ye
  exact ⟨H51, hF, (by kernel_rfl)⟩
  refine yF h49 S118 ?_
  refine w_skip ?_
  exact ⟨H20, hF, (by kernel_rfl)⟩
end Go.Proofs.Abs
