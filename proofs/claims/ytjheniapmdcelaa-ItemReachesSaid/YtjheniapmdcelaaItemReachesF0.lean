/- The law ItemReaches: whatever the input, it answers true. No conditions. (Part ItemReachesF0 of its proof.) -/
import Derived.Test.YtjheniapmdcelaaItemReachesX
set_option linter.unusedVariables false
set_option linter.unusedSimpArgs false
set_option linter.unusedSectionVars false
/- Printed by gen (walk.py). -/
namespace Go.Proofs.Abs
open Go Go.Proofs
set_option linter.unusedVariables false
set_option maxRecDepth 100000
set_option maxHeartbeats 0
noncomputable def ranges_Builder_Mark_j1 (i1 : Nat) (o2 : Nat) (p2 : Int) (j11 : Int) (H12 : Heap) : Option (Heap) :=
  bind1 (get_ranges_Builder H12 i1 o2) fun x13 =>
  bind1 (if (decide ((x13.list_.length : Int) > 0)) = true then (bind1 (gi x13.list_ (IntKind.wrap .i64 ((x13.list_.length : Int) - 1))) fun x16 =>
  some (x16.Pad_ == p2)) else (some false)) fun w18 =>
  if w18 = true then (some H12)
  else (bind1 (app 16 x13.list_ ([(T_api_Segment.mk j11 p2)] : List T_api_Segment)) fun v21 =>
  bnd (set_ranges_Builder H12 i1 o2 (T_ranges_Builder.mk v21)) fun H23 =>
  some H23)
noncomputable def ranges_Builder_Mark (H : Heap) (p0 : Ptr) (p1 : Int) (p2 : Int) : Option (Heap) :=
  (p0).bnd fun i1 o2 =>
  bind1 (get_ranges_Builder H i1 o2) fun x4 =>
  bind1 (if (decide ((x4.list_.length : Int) > 0)) = true then (bind1 (gi x4.list_ (IntKind.wrap .i64 ((x4.list_.length : Int) - 1))) fun x7 =>
  some (decide (p1 ≤ x7.Start_))) else (some false)) fun w9 =>
  if w9 = true then (bind1 (gi x4.list_ (IntKind.wrap .i64 ((x4.list_.length : Int) - 1))) fun x27 =>
  bind1 (cut x4.list_ 0 (IntKind.wrap .i64 ((x4.list_.length : Int) - 1))) fun v29 =>
  bnd (set_ranges_Builder H i1 o2 (T_ranges_Builder.mk v29)) fun H31 =>
  ranges_Builder_Mark_j1 i1 o2 p2 x27.Start_ H31)
  else (ranges_Builder_Mark_j1 i1 o2 p2 p1 H)
theorem ok_ranges_Builder_Mark (H : Heap) {p0 : Ptr} {p1 : Int} {p2 : Int} {Hr : Heap} (hF : ranges_Builder_Mark H p0 p1 p2 = some Hr) : evS X 111 [.one .top (Ptr.av p0), .one .top (.int .i64 p1), .one .top (.int .i64 p2)] H = some (.tup [], Hr) := by
  let E1 : EN := (1, .one .top (.int .i64 p1))
  let E2 : EN := (2, .one .top (.int .i64 p2))
  let E11 : EN := (14, .one .top (.bool true))
  let E12 : EN := (15, .one .top (.bool true))
  let E13 : EN := (16, .one .top (.int .i64 p1))
  let E29 : EN := (53, .one .top (.bool true))
  let E30 : EN := (54, .one .top (.bool true))
  let E44 : EN := (73, .one .top (.int .i64 p2))
  let E46 : EN := (71, .one .top .junk)
  let E47 : EN := (75, .one .top .junk)
  let E51 : EN := (76, .one .top .junk)
  let E67 : EN := (41, .one .top .junk)
  let E71 : EN := (44, .one .top .junk)
  refine yf Try.func111 false ⟨[(0, .one .top (Ptr.av p0)), E1, E2], [], H⟩ ?_
  unfold ranges_Builder_Mark at hF
  refine w_seq ?_
  refine w_seq ?_
  obtain ⟨i1, o2, h3, hF⟩ := pbnd_inv hF
  let E3 : EN := (0, .one .top (.obj i1 o2))
  let E5 : EN := (8, .one .top (.obj i1 o2))
  let E6 : EN := (9, .one .top (.obj i1 o2))
  let E7 : EN := (10, .one .top (.obj i1 o2))
  let E14 : EN := (17, .one .top (.obj i1 o2))
  let E15 : EN := (18, .one .top (.obj i1 o2))
  let E16 : EN := (19, .one .top (.obj i1 o2))
  let E23 : EN := (47, .one .top (.obj i1 o2))
  let E24 : EN := (48, .one .top (.obj i1 o2))
  let E25 : EN := (49, .one .top (.obj i1 o2))
  let E31 : EN := (55, .one .top (.obj i1 o2))
  let E32 : EN := (56, .one .top (.obj i1 o2))
  let E33 : EN := (57, .one .top (.obj i1 o2))
  let E38 : EN := (67, .one .top (.obj i1 o2))
  let E39 : EN := (68, .one .top (.obj i1 o2))
  let E40 : EN := (69, .one .top (.obj i1 o2))
  let E41 : EN := (70, .one .top (.obj i1 o2))
  let E49 : EN := (77, .one .top (.obj i1 o2))
  let E50 : EN := (78, .one .top (.obj i1 o2))
  let E53 : EN := (28, .one .top (.obj i1 o2))
  let E54 : EN := (29, .one .top (.obj i1 o2))
  let E55 : EN := (30, .one .top (.obj i1 o2))
  let E60 : EN := (37, .one .top (.obj i1 o2))
  let E61 : EN := (38, .one .top (.obj i1 o2))
  let E62 : EN := (39, .one .top (.obj i1 o2))
  let E63 : EN := (40, .one .top (.obj i1 o2))
  let E69 : EN := (45, .one .top (.obj i1 o2))
  let E70 : EN := (46, .one .top (.obj i1 o2))
  let S72 : St := ⟨[E3, E1, E2, E5, E6, E7], [], H⟩
  obtain ⟨x4, V5, hF⟩ := bind1_inv hF
  replace V5 := hgetT_inv V5
  let E4 : EN := (6, .one .top (.int .i64 (x4.list_.length : Int)))
  let E8 : EN := (11, .one .bh (.sl 2 (List.map e_api_Segment x4.list_)))
  let E9 : EN := (12, .one .top (.int .i64 (x4.list_.length : Int)))
  let E10 : EN := (13, .one .top (.int .i64 (x4.list_.length : Int)))
  let E17 : EN := (20, .one .bh (.sl 2 (List.map e_api_Segment x4.list_)))
  let E18 : EN := (21, .one .top (.int .i64 (x4.list_.length : Int)))
  let E19 : EN := (22, .one .top (.int .i64 (IntKind.wrap .i64 ((x4.list_.length : Int) - 1))))
  let E56 : EN := (31, .one .bh (.sl 2 (List.map e_api_Segment x4.list_)))
  let E57 : EN := (32, .one .top (.int .i64 (x4.list_.length : Int)))
  let E58 : EN := (33, .one .top (.int .i64 (IntKind.wrap .i64 ((x4.list_.length : Int) - 1))))
  let E64 : EN := (41, .one (.own 1) (.sl 2 (List.map e_api_Segment x4.list_)))
  let E65 : EN := (42, .one .top (.int .i64 (x4.list_.length : Int)))
  let E66 : EN := (43, .one .top (.int .i64 (IntKind.wrap .i64 ((x4.list_.length : Int) - 1))))
  let S73 : St := ⟨[E3, E1, E2, E5, E6, E7, E8], [], H⟩
  let S74 : St := ⟨[E3, E1, E2, E4, E10, E11, E12, E13, E14, E15, E16], [], H⟩
  let S75 : St := ⟨[E3, E1, E2, E4, E10, E11, E12, E13, E14, E15, E16, E17, E18, E19], [], H⟩
  let S81 : St := ⟨[E3, E2, E4, E53, E54, E55], [], H⟩
  let S82 : St := ⟨[E3, E2, E4, E53, E54, E55, E56, E57, E58], [], H⟩
  refine w_regO ⟨[E3, E1, E2, E4], [], H⟩ ?_ ?_
  refine yr 1 ⟨[(0, .one .top (Ptr.av p0)), E1, E2, (8, .one .top (Ptr.av p0))], [], H⟩ ?_ (h := (by generalize p0 = qp0; cases qp0 <;> kernel_rfl))
  refine o_eq (congrArg (fun q => (⟨[(0, .one .top (Ptr.av q)), E1, E2, (8, .one .top (Ptr.av q))], [], H⟩ : St)) h3) ?_
  refine yr 1 ⟨[E3, E1, E2, E5, E6], [], H⟩ ?_
  refine yr 1 S72 ?_
  refine o_one S73 (yd (X := X) S72 129 V5 0 1 false (.one .bh (.sl 2 (List.map e_api_Segment x4.list_))) (some 11)) ?_
  refine o_one ⟨[E3, E1, E2, E5, E6, E7, E8, E9], [], H⟩ (yl S73 x4.list_ e_api_Segment (some 12)) ?_
  refine yr 1 ⟨[E3, E1, E2, E4, E5, E6, E7, E8, E9], [], H⟩ ?_
  exact ye
  refine w_seq ?_
  obtain ⟨w9, hB10, hF⟩ := bind1_inv hF
  refine w_regO ⟨[E3, E1, E2, E4, (27, .one .top (.bool w9))], [], H⟩ ?_ ?_
  refine yr 3 ⟨[E3, E1, E2, E4, E10, (14, .one .top (.bool (decide ((x4.list_.length : Int) > 0)))), (15, .one .top (.bool (decide ((x4.list_.length : Int) > 0))))], [], H⟩ ?_
  rcases if_inv hB10 with ⟨h6, hB10⟩ | ⟨h6, hB10⟩
  refine o_eq (congrArg (fun q => (⟨[E3, E1, E2, E4, E10, (14, .one .top (.bool q)), (15, .one .top (.bool q))], [], H⟩ : St)) h6) ?_
  refine yr 4 S74 ?_
  refine o_one ⟨[E3, E1, E2, E4, E10, E11, E12, E13, E14, E15, E16, E17], [], H⟩ (yd (X := X) S74 129 V5 0 1 false (.one .bh (.sl 2 (List.map e_api_Segment x4.list_))) (some 20)) ?_
  refine yr 2 S75 ?_
  obtain ⟨x7, h8, hB10⟩ := bind1_inv hB10
  let E20 : EN := (23, .one .top (.rd .bh .bh [.int .i64 x7.Start_, .int .i64 x7.Pad_] 0))
  refine o_one ⟨[E3, E1, E2, E4, E10, E11, E12, E13, E14, E15, E16, E17, E18, E19, E20], [], H⟩ (st_ix (X := X) S75 129 170 2 h8 e_api_Segment .bh (some 23) (by kernel_rfl) (by kernel_rfl) (by kernel_rfl) (by kernel_rfl)) ?_
  refine yr 4 ⟨[E3, E1, E2, E4, E10, E11, E12, E13, E14, E15, E16, E17, E18, E19, E20, (24, .one .top (.rd .bh .bh [.int .i64 x7.Start_, .int .i64 x7.Pad_] 0)), (25, .one .top (.int .i64 x7.Start_)), (26, .one .top (.bool (decide (p1 ≤ x7.Start_)))), (27, .one .top (.bool (decide (p1 ≤ x7.Start_))))], [], H⟩ ?_
  cases hB10
  exact ye
  refine o_eq (congrArg (fun q => (⟨[E3, E1, E2, E4, E10, (14, .one .top (.bool q)), (15, .one .top (.bool q))], [], H⟩ : St)) h6) ?_
  refine yr 12 ⟨[E3, E1, E2, E4, E10, (14, .one .top (.bool false)), (15, .one .top (.bool false)), (16, .tup []), (17, .tup []), (18, .tup []), (19, .tup []), (20, .tup []), (21, .tup []), (22, .tup []), (23, .tup []), (24, .tup []), (25, .tup []), (26, .tup []), (27, .one .top (.bool false))], [], H⟩ ?_
  cases hB10
  exact ye
  refine w_join (α := (Int × Heap)) (fun x => (⟨[E3, (1, .one .top (.int .i64 x.1)), E2], [], x.2⟩ : St)) (fun x => ranges_Builder_Mark_j1 i1 o2 p2 x.1 x.2 = some Hr) ?_ ?_
  rintro ⟨j11, H12⟩ hF
  replace hF : ranges_Builder_Mark_j1 i1 o2 p2 j11 H12 = some Hr := hF
  let E21 : EN := (1, .one .top (.int .i64 j11))
  let E43 : EN := (72, .one .top (.int .i64 j11))
  let E45 : EN := (74, .agg [(.top, .int .i64 j11), (.top, .int .i64 p2)])
  let S76 : St := ⟨[E3, E21, E2, E23, E24, E25], [], H12⟩
  let S80 : St := ⟨[E3, E21, E2, E38, E39, E40, E41], [], H12⟩
  unfold ranges_Builder_Mark_j1 at hF
  refine w_seq ?_
  refine w_seq ?_
  obtain ⟨x13, V14, hF⟩ := bind1_inv hF
  replace V14 := hgetT_inv V14
  let E22 : EN := (7, .one .top (.int .i64 (x13.list_.length : Int)))
  let E26 : EN := (50, .one .bh (.sl 2 (List.map e_api_Segment x13.list_)))
  let E27 : EN := (51, .one .top (.int .i64 (x13.list_.length : Int)))
  let E28 : EN := (52, .one .top (.int .i64 (x13.list_.length : Int)))
  let E34 : EN := (58, .one .bh (.sl 2 (List.map e_api_Segment x13.list_)))
  let E35 : EN := (59, .one .top (.int .i64 (x13.list_.length : Int)))
  let E36 : EN := (60, .one .top (.int .i64 (IntKind.wrap .i64 ((x13.list_.length : Int) - 1))))
  let E42 : EN := (71, .one (.own 1) (.sl 2 (List.map e_api_Segment x13.list_)))
  let S77 : St := ⟨[E3, E21, E2, E23, E24, E25, E26], [], H12⟩
  let S78 : St := ⟨[E3, E21, E2, E22, E28, E29, E30, E31, E32, E33], [], H12⟩
  let S79 : St := ⟨[E3, E21, E2, E22, E28, E29, E30, E31, E32, E33, E34, E35, E36], [], H12⟩
  refine w_regO ⟨[E3, E21, E2, E22], [], H12⟩ ?_ ?_
  refine yr 2 ⟨[E3, E21, E2, E23, E24], [], H12⟩ ?_
  refine yr 1 S76 ?_
  refine o_one S77 (yd (X := X) S76 129 V14 0 1 false (.one .bh (.sl 2 (List.map e_api_Segment x13.list_))) (some 50)) ?_
  refine o_one ⟨[E3, E21, E2, E23, E24, E25, E26, E27], [], H12⟩ (yl S77 x13.list_ e_api_Segment (some 51)) ?_
  refine yr 1 ⟨[E3, E21, E2, E22, E23, E24, E25, E26, E27], [], H12⟩ ?_
  exact ye
  refine w_seq ?_
  obtain ⟨w18, hB19, hF⟩ := bind1_inv hF
  refine w_regO ⟨[E3, E21, E2, (66, .one .top (.bool w18))], [], H12⟩ ?_ ?_
  refine yr 3 ⟨[E3, E21, E2, E22, E28, (53, .one .top (.bool (decide ((x13.list_.length : Int) > 0)))), (54, .one .top (.bool (decide ((x13.list_.length : Int) > 0))))], [], H12⟩ ?_
  rcases if_inv hB19 with ⟨h15, hB19⟩ | ⟨h15, hB19⟩
  refine o_eq (congrArg (fun q => (⟨[E3, E21, E2, E22, E28, (53, .one .top (.bool q)), (54, .one .top (.bool q))], [], H12⟩ : St)) h15) ?_
  refine yr 3 S78 ?_
  refine o_one ⟨[E3, E21, E2, E22, E28, E29, E30, E31, E32, E33, E34], [], H12⟩ (yd (X := X) S78 129 V14 0 1 false (.one .bh (.sl 2 (List.map e_api_Segment x13.list_))) (some 58)) ?_
  refine yr 2 S79 ?_
  obtain ⟨x16, h17, hB19⟩ := bind1_inv hB19
  let E37 : EN := (61, .one .top (.rd .bh .bh [.int .i64 x16.Start_, .int .i64 x16.Pad_] 0))
  refine o_one ⟨[E3, E21, E2, E22, E28, E29, E30, E31, E32, E33, E34, E35, E36, E37], [], H12⟩ (st_ix (X := X) S79 129 170 2 h17 e_api_Segment .bh (some 61) (by kernel_rfl) (by kernel_rfl) (by kernel_rfl) (by kernel_rfl)) ?_
  refine yr 5 ⟨[E3, E21, E2, E22, E28, E29, E30, E31, E32, E33, E34, E35, E36, E37, (62, .one .top (.rd .bh .bh [.int .i64 x16.Start_, .int .i64 x16.Pad_] 1)), (63, .one .top (.int .i64 x16.Pad_)), (64, .one .top (.int .i64 p2)), (65, .one .top (.bool (x16.Pad_ == p2))), (66, .one .top (.bool (x16.Pad_ == p2)))], [], H12⟩ ?_
  cases hB19
  exact ye
  refine o_eq (congrArg (fun q => (⟨[E3, E21, E2, E22, E28, (53, .one .top (.bool q)), (54, .one .top (.bool q))], [], H12⟩ : St)) h15) ?_
  refine yr 12 ⟨[E3, E21, E2, E22, E28, (53, .one .top (.bool false)), (54, .one .top (.bool false)), (55, .tup []), (56, .tup []), (57, .tup []), (58, .tup []), (59, .tup []), (60, .tup []), (61, .tup []), (62, .tup []), (63, .tup []), (64, .tup []), (65, .tup []), (66, .one .top (.bool false))], [], H12⟩ ?_
  cases hB19
  exact ye
  rcases if_inv hF with ⟨h20, hF⟩ | ⟨h20, hF⟩
  refine yT h20 ⟨[], [], H12⟩ ?_
  refine w_ret ?_
  obtain e0 := some1_inv hF
  subst e0
  exact yi (.tup [])
  refine yF h20 ⟨[E3, E21, E2], [], H12⟩ ?_
  refine w_skip ?_
  obtain ⟨v21, h22, hF⟩ := bind1_inv hF
  let E48 : EN := (76, .one (.own 1) (.sl 2 (List.map e_api_Segment v21)))
  obtain ⟨H23, h24, hF⟩ := bnd_inv hF
  have V25 : hget H23 i1 o2 1 = some (o_ranges_Builder (T_ranges_Builder.mk v21)) := by rw [← h24]; exact hset_get V14 rfl
  refine w_regO ⟨[], [], H23⟩ ?_ ?_
  refine yr 4 S80 ?_
  refine o_one ⟨[E3, E21, E2, E38, E39, E40, E41, E42], [], (hset H12 i1 o2 [(.top, .junk)])⟩ (st_ldT (X := X) (h2 := (hset H12 i1 o2 [(.top, .junk)])) S80 129 V14 0 1 false (.one (.own 1) (.sl 2 (List.map e_api_Segment x13.list_))) (some 71) (by kernel_rfl) (by kernel_rfl) (by kernel_rfl) (by kernel_rfl) (by kernel_rfl) (hset_sub0 (k := 0) V14 (Nat.le_of_ble_eq_true rfl)) (by kernel_rfl)) ?_
  refine yr 4 ⟨[E3, E21, E2, E38, E39, E40, E41, E42, E43, E44, E45, (75, .one (.own 1) (.sl 2 (List.map e_api_Segment ([(T_api_Segment.mk j11 p2)] : List T_api_Segment))))], [], (hset H12 i1 o2 [(.top, .junk)])⟩ ?_
  refine o_one ⟨[E3, E21, E2, E38, E39, E40, E41, E46, E43, E44, E45, E47, E48], [], (hset H12 i1 o2 [(.top, .junk)])⟩ (st_app (X := X) (⟨[E3, E21, E2, E38, E39, E40, E41, E46, E43, E44, E45, E47], [], (hset H12 i1 o2 [(.top, .junk)])⟩ : St) 16 h22 129 129 170 2 0 [(.top, .int .i64 0), (.top, .int .i64 0)] (.own 1) e_api_Segment 0 (some 76) (by kernel_rfl) (by kernel_rfl) (by kernel_rfl) (by kernel_rfl) (by kernel_rfl) (by kernel_rfl) (by kernel_rfl) (by kernel_rfl) (by kernel_rfl) (fun _ => rfl) (by kernel_rfl)) ?_
  refine yr 2 ⟨[E3, E21, E2, E38, E39, E40, E41, E46, E43, E44, E45, E47, E48, E49, E50], [], (hset H12 i1 o2 [(.top, .junk)])⟩ ?_
  refine o_one ⟨[E3, E21, E2, E38, E39, E40, E41, E46, E43, E44, E45, E47, E51, E49, E50], [], (hset H12 i1 o2 [((.own 1), .sl 2 (List.map e_api_Segment v21))])⟩ (st_st (X := X) (lc := []) (h2 := (hset H12 i1 o2 [((.own 1), .sl 2 (List.map e_api_Segment v21))])) (⟨[E3, E21, E2, E38, E39, E40, E41, E46, E43, E44, E45, E47, E51, E49, E50], [], (hset H12 i1 o2 [(.top, .junk)])⟩ : St) 129 (hset_get V14 rfl) 0 1 (.one (.own 1) (.sl 2 (List.map e_api_Segment v21))) (by kernel_rfl) (by kernel_rfl) (by kernel_rfl) (by kernel_rfl) (by kernel_rfl) (by kernel_rfl) (hset_sub V14 rfl (Nat.le_of_ble_eq_true rfl)) (by kernel_rfl)) ?_
  refine o_eq (congrArg (fun q => (⟨[E3, E21, E2, E38, E39, E40, E41, E46, E43, E44, E45, E47, E51, E49, E50], [], q⟩ : St)) h24) ?_
  exact ye
  obtain e0 := some1_inv hF
  subst e0
  exact yi (.tup [])
  rcases if_inv hF with ⟨h26, hF⟩ | ⟨h26, hF⟩
  refine yT h26 ⟨[E3, E2, E4], [], H⟩ ?_
  refine w_seq ?_
  obtain ⟨x27, h28, hF⟩ := bind1_inv hF
  let E52 : EN := (1, .one .top (.int .i64 x27.Start_))
  let E59 : EN := (34, .one .top (.rd .bh .bh [.int .i64 x27.Start_, .int .i64 x27.Pad_] 0))
  let S83 : St := ⟨[E3, E52, E2, E4, E60, E61, E62, E63], [], H⟩
  let S84 : St := ⟨[E3, E52, E2, E4, E60, E61, E62, E63, E67, E65, E66], [], (hset H i1 o2 [(.top, .junk)])⟩
  refine w_regO ⟨[E3, E52, E2, E4], [], H⟩ ?_ ?_
  refine yr 3 S81 ?_
  refine o_one ⟨[E3, E2, E4, E53, E54, E55, E56], [], H⟩ (yd (X := X) S81 129 V5 0 1 false (.one .bh (.sl 2 (List.map e_api_Segment x4.list_))) (some 31)) ?_
  refine yr 2 S82 ?_
  refine o_one ⟨[E3, E2, E4, E53, E54, E55, E56, E57, E58, E59], [], H⟩ (st_ix (X := X) S82 129 170 2 h28 e_api_Segment .bh (some 34) (by kernel_rfl) (by kernel_rfl) (by kernel_rfl) (by kernel_rfl)) ?_
  refine yr 3 ⟨[E3, E52, E2, E4, E53, E54, E55, E56, E57, E58, E59, (35, .one .top (.rd .bh .bh [.int .i64 x27.Start_, .int .i64 x27.Pad_] 0)), (36, .one .top (.int .i64 x27.Start_))], [], H⟩ ?_
  exact ye
  obtain ⟨v29, h30, hF⟩ := bind1_inv hF
  let E68 : EN := (44, .one (.own 1) (.sl 2 (List.map e_api_Segment v29)))
  obtain ⟨H31, h32, hF⟩ := bnd_inv hF
  have V33 : hget H31 i1 o2 1 = some (o_ranges_Builder (T_ranges_Builder.mk v29)) := by rw [← h32]; exact hset_get V5 rfl
  refine w_regO ⟨[E3, E52, E2], [], H31⟩ ?_ ?_
  refine yr 4 S83 ?_
  refine o_one ⟨[E3, E52, E2, E4, E60, E61, E62, E63, E64], [], (hset H i1 o2 [(.top, .junk)])⟩ (st_ldT (X := X) (h2 := (hset H i1 o2 [(.top, .junk)])) S83 129 V5 0 1 false (.one (.own 1) (.sl 2 (List.map e_api_Segment x4.list_))) (some 41) (by kernel_rfl) (by kernel_rfl) (by kernel_rfl) (by kernel_rfl) (by kernel_rfl) (hset_sub0 (k := 0) V5 (Nat.le_of_ble_eq_true rfl)) (by kernel_rfl)) ?_
  refine yr 2 ⟨[E3, E52, E2, E4, E60, E61, E62, E63, E64, E65, E66], [], (hset H i1 o2 [(.top, .junk)])⟩ ?_
  refine o_one ⟨[E3, E52, E2, E4, E60, E61, E62, E63, E67, E65, E66, E68], [], (hset H i1 o2 [(.top, .junk)])⟩ (st_cut (X := X) S84 129 170 2 h30 e_api_Segment (.own 1) none (some (.tmp 43)) (some 44) (by kernel_rfl) (by kernel_rfl) (by kernel_rfl) (by kernel_rfl) (show bndIs X.P _ _ none _ from rfl) (show (opnd X.P S84 0 (.tmp 43)).bind natOf = some (IntKind.wrap .i64 ((x4.list_.length : Int) - 1)) by kernel_rfl) (by kernel_rfl)) ?_
  refine yr 2 ⟨[E3, E52, E2, E4, E60, E61, E62, E63, E67, E65, E66, E68, E69, E70], [], (hset H i1 o2 [(.top, .junk)])⟩ ?_
  refine o_one ⟨[E3, E52, E2, E4, E60, E61, E62, E63, E67, E65, E66, E71, E69, E70], [], (hset H i1 o2 [((.own 1), .sl 2 (List.map e_api_Segment v29))])⟩ (st_st (X := X) (lc := []) (h2 := (hset H i1 o2 [((.own 1), .sl 2 (List.map e_api_Segment v29))])) (⟨[E3, E52, E2, E4, E60, E61, E62, E63, E67, E65, E66, E71, E69, E70], [], (hset H i1 o2 [(.top, .junk)])⟩ : St) 129 (hset_get V5 rfl) 0 1 (.one (.own 1) (.sl 2 (List.map e_api_Segment v29))) (by kernel_rfl) (by kernel_rfl) (by kernel_rfl) (by kernel_rfl) (by kernel_rfl) (by kernel_rfl) (hset_sub V5 rfl (Nat.le_of_ble_eq_true rfl)) (by kernel_rfl)) ?_
  refine o_eq (congrArg (fun q => (⟨[E3, E52, E2, E4, E60, E61, E62, E63, E67, E65, E66, E71, E69, E70], [], q⟩ : St)) h32) ?_
  exact ye
  exact ⟨(x27.Start_, H31), hF, (by kernel_rfl)⟩
  refine yF h26 ⟨[E3, E1, E2], [], H⟩ ?_
  refine w_skip ?_
  exact ⟨(p1, H), hF, (by kernel_rfl)⟩
noncomputable def emit_New (H : Heap) : Option (Heap × Ptr) :=
  bnd H.length fun i2 =>
  bnd (new_emit_Code H (T_emit_Code.mk ([] : List Int) ([] : List T_api_Fixup) (T_ranges_Builder.mk ([] : List T_api_Segment)) ([] : List Int) ([] : List Int) 0 0 0)) fun H1 =>
  bind1 (get_emit_Code H1 i2 0) fun x5 =>
  bind1 (ranges_Builder_Mark H1 (Ptr.at i2 2) 0 (-1)) fun H8 =>
  some (H8, (Ptr.at i2 0))
theorem ok_emit_New (H : Heap) {ra : Ptr} {Hr : Heap} (hF : emit_New H = some (Hr, ra)) : evS X 109 [] H = some (.one .top (Ptr.av ra), Hr) := by
  let E2 : EN := (2, .agg (List.replicate 5 (.top, .junk) ++ [(.top, .int .i64 0), (.top, .int .i64 0), (.top, .int .i64 0)]))
  refine yf Try.func109 false ⟨[], [], H⟩ ?_
  unfold emit_New at hF
  refine ysg ⟨[], [], H⟩ ?_
  refine w_seq ?_
  obtain ⟨i2, h4, hF⟩ := bnd_inv hF
  let E1 : EN := (1, .one .top (.obj i2 0))
  let E3 : EN := (4, .one .top (.obj i2 0))
  let E4 : EN := (5, .one .top (.obj i2 0))
  let E5 : EN := (6, .one .top (.obj i2 2))
  obtain ⟨H1, h3, hF⟩ := bnd_inv hF
  let S6 : St := ⟨[E1, E3, E4, E5], [], H1⟩
  refine w_regO ⟨[E1], [], H1⟩ ?_ ?_
  refine yr 1 ⟨[(2, .agg [((.own 1), .sl 1 (List.map (eI .u32) ([] : List Int))), ((.own 1), .sl 4 (List.map e_api_Fixup ([] : List T_api_Fixup))), ((.own 1), .sl 2 (List.map e_api_Segment ([] : List T_api_Segment))), ((.own 1), .sl 1 (List.map (eI .i64) ([] : List Int))), ((.own 1), .sl 1 (List.map (eI .i64) ([] : List Int))), (.top, .int .i64 0), (.top, .int .i64 0), (.top, .int .i64 0)])], [], H⟩ ?_
  refine o_one ⟨[E2, (3, .one .top (.obj H.length 0))], [], (H ++ [[((.own 1), .sl 1 (List.map (eI .u32) ([] : List Int))), ((.own 1), .sl 4 (List.map e_api_Fixup ([] : List T_api_Fixup))), ((.own 1), .sl 2 (List.map e_api_Segment ([] : List T_api_Segment))), ((.own 1), .sl 1 (List.map (eI .i64) ([] : List Int))), ((.own 1), .sl 1 (List.map (eI .i64) ([] : List Int))), (.top, .int .i64 0), (.top, .int .i64 0), (.top, .int .i64 0)]])⟩ (by kernel_rfl) ?_
  refine o_eq (congr2 (fun q u => (⟨[E2, (3, .one .top (.obj q 0))], [], u⟩ : St)) h4 h3) ?_
  refine yr 1 ⟨[E1, E2, (3, .one .top (.obj i2 0))], [], H1⟩ ?_
  exact ye
  refine w_seq ?_
  obtain ⟨x5, V6, hF⟩ := bind1_inv hF
  replace V6 := hgetT_inv V6
  obtain ⟨H8, c7, hF⟩ := bind1_inv hF
  refine w_regO ⟨[E1], [], H8⟩ ?_ ?_
  refine yr 2 ⟨[E1, E3, E4], [], H1⟩ ?_
  refine yr 1 S6 ?_
  refine o_one ⟨[E1, E3, E4, E5, (7, .tup [])], [], H8⟩ (yc (some 7) false false S6 (ok_ranges_Builder_Mark H1 c7)) ?_
  exact ye
  refine ysg ⟨[(0, .one .top (.obj i2 0))], [], H8⟩ ?_
  refine w_ret ?_
  obtain ⟨e0, e1⟩ := some2_inv hF
  subst e0
  subst e1
  exact yi (.one .top (.obj i2 0))
noncomputable def item_New (H : Heap) : Option (Heap × Ptr) :=
  bind2 (emit_New H) fun H3 r1 =>
  bnd H3.length fun i5 =>
  bnd (new_item_Gen H3 (T_item_Gen.mk r1 0 (T_item_Proc.mk 0 0 ([] : List Int) Ptr.nil))) fun H4 =>
  some (H4, (Ptr.at i5 0))
theorem ok_item_New (H : Heap) {ra : Ptr} {Hr : Heap} (hF : item_New H = some (Hr, ra)) : evS X 65 [] H = some (.one .top (Ptr.av ra), Hr) := by
  let S3 : St := ⟨[], [], H⟩
  refine yf Try.func65 false S3 ?_
  unfold item_New at hF
  refine ysg S3 ?_
  refine w_seq ?_
  obtain ⟨H3, r1, c2, hF⟩ := bind2_inv hF
  let E1 : Ptr → EN := fun z0 => (1, .one .top (Ptr.av z0))
  let E2 : Ptr → EN := fun z0 => (2, .agg [(.top, (Ptr.av z0)), (.top, .int .i64 0), (.top, .int .i64 0), (.top, .int .i64 0), (.top, .junk), (.top, .nilp)])
  obtain ⟨i5, h7, hF⟩ := bnd_inv hF
  obtain ⟨H4, h6, hF⟩ := bnd_inv hF
  refine w_regO ⟨[(0, .one .top (.obj i5 0))], [], H4⟩ ?_ ?_
  refine o_one ⟨[(E1 r1)], [], H3⟩ (st_call (d := (some 1)) (fz := false) (pure := false) (own := false) S3 (ok_emit_New H c2) (by generalize r1 = qp0; cases qp0 <;> kernel_rfl) (by generalize r1 = qp0; cases qp0 <;> kernel_rfl)) ?_
  refine yr 1 ⟨[(E1 r1), (2, .agg [(.top, (Ptr.av r1)), (.top, .int .i64 0), (.top, .int .i64 0), (.top, .int .i64 0), ((.own 1), .sl 1 (List.map (eI .i64) ([] : List Int))), (.top, .nilp)])], [], H3⟩ ?_ (h := (by generalize r1 = qp0; cases qp0 <;> kernel_rfl))
  refine o_one ⟨[(E1 r1), (E2 r1), (3, .one .top (.obj H3.length 0))], [], (H3 ++ [[(.top, (Ptr.av r1)), (.top, .int .i64 0), (.top, .int .i64 0), (.top, .int .i64 0), ((.own 1), .sl 1 (List.map (eI .i64) ([] : List Int))), (.top, .nilp)]])⟩ (by generalize r1 = qp0; cases qp0 <;> kernel_rfl) ?_
  refine o_eq (congr2 (fun q u => (⟨[(E1 r1), (E2 r1), (3, .one .top (.obj q 0))], [], u⟩ : St)) h7 h6) ?_
  refine yr 1 ⟨[(0, .one .top (.obj i5 0)), (E1 r1), (E2 r1), (3, .one .top (.obj i5 0))], [], H4⟩ ?_ (h := (by generalize r1 = qp0; cases qp0 <;> kernel_rfl))
  exact ye
  refine w_ret ?_
  obtain ⟨e0, e1⟩ := some2_inv hF
  subst e0
  subst e1
  exact yi (.one .top (.obj i5 0))
noncomputable def instr_Shape_j7 (p0 : Int) (j14 : Bool) : Option (Int) :=
  if j14 = true then (some 7)
  else (if (p0 == 28) = true then (some 8)
  else (some (-1)))
noncomputable def instr_Shape_j6 (p0 : Int) (j12 : Bool) : Option (Int) :=
  if j12 = true then (some 6)
  else (if (p0 == 22) = true then (instr_Shape_j7 p0 (p0 == 22))
  else (instr_Shape_j7 p0 (p0 == 23)))
noncomputable def instr_Shape_j8 (p0 : Int) (j19 : Bool) : Option (Int) :=
  instr_Shape_j6 p0 j19
noncomputable def instr_Shape_j9 (p0 : Int) (j21 : Bool) : Option (Int) :=
  instr_Shape_j8 p0 j21
noncomputable def instr_Shape_j10 (p0 : Int) (j23 : Bool) : Option (Int) :=
  instr_Shape_j9 p0 j23
noncomputable def instr_Shape_j11 (p0 : Int) (j25 : Bool) : Option (Int) :=
  instr_Shape_j10 p0 j25
noncomputable def instr_Shape_j5 (p0 : Int) (j10 : Bool) : Option (Int) :=
  if j10 = true then (some 5)
  else (if (p0 == 24) = true then (instr_Shape_j6 p0 (p0 == 24))
  else (if (p0 == 25) = true then (instr_Shape_j8 p0 (p0 == 25))
  else (if (p0 == 27) = true then (instr_Shape_j9 p0 (p0 == 27))
  else (if (p0 == 29) = true then (instr_Shape_j10 p0 (p0 == 29))
  else (if (p0 == 31) = true then (instr_Shape_j11 p0 (p0 == 31))
  else (instr_Shape_j11 p0 (p0 == 32)))))))
noncomputable def instr_Shape_j12 (p0 : Int) (j28 : Bool) : Option (Int) :=
  instr_Shape_j5 p0 j28
noncomputable def instr_Shape_j13 (p0 : Int) (j30 : Bool) : Option (Int) :=
  instr_Shape_j12 p0 j30
noncomputable def instr_Shape_j14 (p0 : Int) (j32 : Bool) : Option (Int) :=
  instr_Shape_j13 p0 j32
noncomputable def instr_Shape_j15 (p0 : Int) (j34 : Bool) : Option (Int) :=
  instr_Shape_j14 p0 j34
noncomputable def instr_Shape_j16 (p0 : Int) (j36 : Bool) : Option (Int) :=
  instr_Shape_j15 p0 j36
noncomputable def instr_Shape_j17 (p0 : Int) (j38 : Bool) : Option (Int) :=
  instr_Shape_j16 p0 j38
noncomputable def instr_Shape_j18 (p0 : Int) (j40 : Bool) : Option (Int) :=
  instr_Shape_j17 p0 j40
noncomputable def instr_Shape_j19 (p0 : Int) (j42 : Bool) : Option (Int) :=
  instr_Shape_j18 p0 j42
noncomputable def instr_Shape_j20 (p0 : Int) (j44 : Bool) : Option (Int) :=
  instr_Shape_j19 p0 j44
noncomputable def instr_Shape_j21 (p0 : Int) (j46 : Bool) : Option (Int) :=
  instr_Shape_j20 p0 j46
noncomputable def instr_Shape_j4 (p0 : Int) (j8 : Bool) : Option (Int) :=
  if j8 = true then (some 4)
  else (if (p0 == 6) = true then (instr_Shape_j5 p0 (p0 == 6))
  else (if (p0 == 7) = true then (instr_Shape_j12 p0 (p0 == 7))
  else (if (p0 == 8) = true then (instr_Shape_j13 p0 (p0 == 8))
  else (if (p0 == 9) = true then (instr_Shape_j14 p0 (p0 == 9))
  else (if (p0 == 10) = true then (instr_Shape_j15 p0 (p0 == 10))
  else (if (p0 == 11) = true then (instr_Shape_j16 p0 (p0 == 11))
  else (if (p0 == 12) = true then (instr_Shape_j17 p0 (p0 == 12))
  else (if (p0 == 13) = true then (instr_Shape_j18 p0 (p0 == 13))
  else (if (p0 == 14) = true then (instr_Shape_j19 p0 (p0 == 14))
  else (if (p0 == 15) = true then (instr_Shape_j20 p0 (p0 == 15))
  else (if (p0 == 16) = true then (instr_Shape_j21 p0 (p0 == 16))
  else (instr_Shape_j21 p0 (p0 == 17)))))))))))))
noncomputable def instr_Shape_j22 (p0 : Int) (j49 : Bool) : Option (Int) :=
  instr_Shape_j4 p0 j49
noncomputable def instr_Shape_j3 (p0 : Int) (j6 : Bool) : Option (Int) :=
  if j6 = true then (some 3)
  else (if (p0 == 4) = true then (instr_Shape_j4 p0 (p0 == 4))
  else (if (p0 == 34) = true then (instr_Shape_j22 p0 (p0 == 34))
  else (instr_Shape_j22 p0 (p0 == 26))))
noncomputable def instr_Shape_j23 (p0 : Int) (j52 : Bool) : Option (Int) :=
  instr_Shape_j3 p0 j52
noncomputable def instr_Shape_j2 (p0 : Int) (j4 : Bool) : Option (Int) :=
  if j4 = true then (some 2)
  else (if (p0 == 5) = true then (instr_Shape_j3 p0 (p0 == 5))
  else (if (p0 == 18) = true then (instr_Shape_j23 p0 (p0 == 18))
  else (instr_Shape_j23 p0 (p0 == 19))))
noncomputable def instr_Shape_j24 (p0 : Int) (j55 : Bool) : Option (Int) :=
  instr_Shape_j2 p0 j55
noncomputable def instr_Shape_j1 (p0 : Int) (j2 : Bool) : Option (Int) :=
  if j2 = true then (some 1)
  else (if (p0 == 3) = true then (instr_Shape_j2 p0 (p0 == 3))
  else (if (p0 == 30) = true then (instr_Shape_j24 p0 (p0 == 30))
  else (instr_Shape_j24 p0 (p0 == 33))))
noncomputable def instr_Shape_j25 (p0 : Int) (j58 : Bool) : Option (Int) :=
  instr_Shape_j1 p0 j58
noncomputable def instr_Shape  (p0 : Int) : Option (Int) :=
  if (p0 == 1) = true then (some 0)
  else (if (p0 == 2) = true then (instr_Shape_j1 p0 (p0 == 2))
  else (if (p0 == 20) = true then (instr_Shape_j25 p0 (p0 == 20))
  else (instr_Shape_j25 p0 (p0 == 21))))
theorem ok_instr_Shape (H : Heap) {p0 : Int} {ra : Int} (hF : instr_Shape p0 = some ra) : evS X 102 [.one .top (.int .i64 p0)] H = some (.one .top (.int .i64 ra), H) := by
  let E1 : EN := (0, .one .top (.int .i64 p0))
  let E2 : EN := (3, .one .top (.int .i64 p0))
  let E3 : EN := (6, .one .top (.bool (p0 == 2)))
  let E4 : EN := (10, .one .top (.bool (p0 == 3)))
  let E5 : EN := (14, .one .top (.bool (p0 == 5)))
  let E6 : EN := (18, .one .top (.bool (p0 == 4)))
  let E7 : EN := (22, .one .top (.bool (p0 == 6)))
  let E8 : EN := (35, .one .top (.bool (p0 == 24)))
  let E9 : EN := (42, .one .top (.bool (p0 == 22)))
  let E10 : EN := (35, .one .top (.bool (p0 == 25)))
  let E11 : EN := (35, .one .top (.bool (p0 == 27)))
  let E12 : EN := (35, .one .top (.bool (p0 == 29)))
  let E13 : EN := (35, .one .top (.bool (p0 == 31)))
  let E14 : EN := (22, .one .top (.bool (p0 == 7)))
  let E15 : EN := (22, .one .top (.bool (p0 == 8)))
  let E16 : EN := (22, .one .top (.bool (p0 == 9)))
  let E17 : EN := (22, .one .top (.bool (p0 == 10)))
  let E18 : EN := (22, .one .top (.bool (p0 == 11)))
  let E19 : EN := (22, .one .top (.bool (p0 == 12)))
  let E20 : EN := (22, .one .top (.bool (p0 == 13)))
  let E21 : EN := (22, .one .top (.bool (p0 == 14)))
  let E22 : EN := (22, .one .top (.bool (p0 == 15)))
  let E23 : EN := (22, .one .top (.bool (p0 == 16)))
  let E24 : EN := (18, .one .top (.bool (p0 == 34)))
  let E25 : EN := (14, .one .top (.bool (p0 == 18)))
  let E26 : EN := (10, .one .top (.bool (p0 == 30)))
  let E27 : EN := (6, .one .top (.bool (p0 == 20)))
  let S28 : St := ⟨[E2], [], H⟩
  let S29 : St := ⟨[], [], H⟩
  refine yf Try.func102 true ⟨[E1], [], H⟩ ?_
  unfold instr_Shape at hF
  refine ysg ⟨[E1], [], H⟩ ?_
  refine w_seq ?_
  refine ysg S28 ?_
  refine w_block ?_
  refine ysg ⟨[E2, (4, .one .top (.bool (p0 == 1)))], [], H⟩ ?_
  rcases if_inv hF with ⟨h1, hF⟩ | ⟨h1, hF⟩
  refine yT h1 S29 ?_
  refine ysg ⟨[(2, .one .top (.int .i64 0))], [], H⟩ ?_
  refine w_ret ?_
  obtain e0 := some1_inv hF
  subst e0
  exact yp (.one .top (.int .i64 0))
  refine yF h1 S28 ?_
  refine w_seq ?_
  refine ysg ⟨[E2, E3], [], H⟩ ?_
  refine w_join (α := (Bool)) (fun x => (⟨[E2, (6, .one .top (.bool x))], [], H⟩ : St)) (fun x => instr_Shape_j1 p0 x = some ra) ?_ ?_
  rintro j2 hF
  replace hF : instr_Shape_j1 p0 j2 = some ra := hF
  unfold instr_Shape_j1 at hF
  rcases if_inv hF with ⟨h3, hF⟩ | ⟨h3, hF⟩
  refine yT h3 S29 ?_
  refine ysg ⟨[(2, .one .top (.int .i64 1))], [], H⟩ ?_
  refine w_ret ?_
  obtain e0 := some1_inv hF
  subst e0
  exact yp (.one .top (.int .i64 1))
  refine yF h3 S28 ?_
  refine w_seq ?_
  refine ysg ⟨[E2, E4], [], H⟩ ?_
  refine w_join (α := (Bool)) (fun x => (⟨[E2, (10, .one .top (.bool x))], [], H⟩ : St)) (fun x => instr_Shape_j2 p0 x = some ra) ?_ ?_
  rintro j4 hF
  replace hF : instr_Shape_j2 p0 j4 = some ra := hF
  unfold instr_Shape_j2 at hF
  rcases if_inv hF with ⟨h5, hF⟩ | ⟨h5, hF⟩
  refine yT h5 S29 ?_
  refine ysg ⟨[(2, .one .top (.int .i64 2))], [], H⟩ ?_
  refine w_ret ?_
  obtain e0 := some1_inv hF
  subst e0
  exact yp (.one .top (.int .i64 2))
  refine yF h5 S28 ?_
  refine w_seq ?_
  refine ysg ⟨[E2, E5], [], H⟩ ?_
  refine w_join (α := (Bool)) (fun x => (⟨[E2, (14, .one .top (.bool x))], [], H⟩ : St)) (fun x => instr_Shape_j3 p0 x = some ra) ?_ ?_
  rintro j6 hF
  replace hF : instr_Shape_j3 p0 j6 = some ra := hF
  unfold instr_Shape_j3 at hF
  rcases if_inv hF with ⟨h7, hF⟩ | ⟨h7, hF⟩
  refine yT h7 S29 ?_
  refine ysg ⟨[(2, .one .top (.int .i64 3))], [], H⟩ ?_
  refine w_ret ?_
  obtain e0 := some1_inv hF
  subst e0
  exact yp (.one .top (.int .i64 3))
  refine yF h7 S28 ?_
  refine w_seq ?_
  refine ysg ⟨[E2, E6], [], H⟩ ?_
  refine w_join (α := (Bool)) (fun x => (⟨[E2, (18, .one .top (.bool x))], [], H⟩ : St)) (fun x => instr_Shape_j4 p0 x = some ra) ?_ ?_
  rintro j8 hF
  replace hF : instr_Shape_j4 p0 j8 = some ra := hF
  unfold instr_Shape_j4 at hF
  rcases if_inv hF with ⟨h9, hF⟩ | ⟨h9, hF⟩
  refine yT h9 S29 ?_
  refine ysg ⟨[(2, .one .top (.int .i64 4))], [], H⟩ ?_
  refine w_ret ?_
  obtain e0 := some1_inv hF
  subst e0
  exact yp (.one .top (.int .i64 4))
  refine yF h9 S28 ?_
  refine w_seq ?_
  refine ysg ⟨[E2, E7], [], H⟩ ?_
  refine w_join (α := (Bool)) (fun x => (⟨[E2, (22, .one .top (.bool x))], [], H⟩ : St)) (fun x => instr_Shape_j5 p0 x = some ra) ?_ ?_
  rintro j10 hF
  replace hF : instr_Shape_j5 p0 j10 = some ra := hF
  unfold instr_Shape_j5 at hF
  rcases if_inv hF with ⟨h11, hF⟩ | ⟨h11, hF⟩
  refine yT h11 S29 ?_
  refine ysg ⟨[(2, .one .top (.int .i64 5))], [], H⟩ ?_
  refine w_ret ?_
  obtain e0 := some1_inv hF
  subst e0
  exact yp (.one .top (.int .i64 5))
  refine yF h11 S28 ?_
  refine w_seq ?_
  refine ysg ⟨[E2, E8], [], H⟩ ?_
  refine w_join (α := (Bool)) (fun x => (⟨[E2, (35, .one .top (.bool x))], [], H⟩ : St)) (fun x => instr_Shape_j6 p0 x = some ra) ?_ ?_
  rintro j12 hF
  replace hF : instr_Shape_j6 p0 j12 = some ra := hF
  unfold instr_Shape_j6 at hF
  rcases if_inv hF with ⟨h13, hF⟩ | ⟨h13, hF⟩
  refine yT h13 S29 ?_
  refine ysg ⟨[(2, .one .top (.int .i64 6))], [], H⟩ ?_
  refine w_ret ?_
  obtain e0 := some1_inv hF
  subst e0
  exact yp (.one .top (.int .i64 6))
  refine yF h13 S28 ?_
  refine w_seq ?_
  refine ysg ⟨[E2, E9], [], H⟩ ?_
  refine w_join (α := (Bool)) (fun x => (⟨[E2, (42, .one .top (.bool x))], [], H⟩ : St)) (fun x => instr_Shape_j7 p0 x = some ra) ?_ ?_
  rintro j14 hF
  replace hF : instr_Shape_j7 p0 j14 = some ra := hF
  unfold instr_Shape_j7 at hF
  rcases if_inv hF with ⟨h15, hF⟩ | ⟨h15, hF⟩
  refine yT h15 S29 ?_
  refine ysg ⟨[(2, .one .top (.int .i64 7))], [], H⟩ ?_
  refine w_ret ?_
  obtain e0 := some1_inv hF
  subst e0
  exact yp (.one .top (.int .i64 7))
  refine yF h15 S28 ?_
  refine ysg ⟨[(45, .one .top (.bool (p0 == 28)))], [], H⟩ ?_
  rcases if_inv hF with ⟨h16, hF⟩ | ⟨h16, hF⟩
  refine yT h16 S29 ?_
  refine ysg ⟨[(2, .one .top (.int .i64 8))], [], H⟩ ?_
  refine w_ret ?_
  obtain e0 := some1_inv hF
  subst e0
  exact yp (.one .top (.int .i64 8))
  refine yF h16 S29 ?_
  refine w_skip ?_
  refine ysg ⟨[(2, .one .top (.int .i64 (-1)))], [], H⟩ ?_
  refine w_ret ?_
  obtain e0 := some1_inv hF
  subst e0
  exact yp (.one .top (.int .i64 (-1)))
  rcases if_inv hF with ⟨h17, hF⟩ | ⟨h17, hF⟩
  refine yT h17 ⟨[E2, E9], [], H⟩ ?_
  refine w_skip ?_
  exact ⟨(p0 == 22), hF, (by kernel_rfl)⟩
  refine yF h17 S28 ?_
  refine yg ⟨[E2, (42, .one .top (.bool (p0 == 23)))], [], H⟩ ?_
  exact ⟨(p0 == 23), hF, (by kernel_rfl)⟩
  rcases if_inv hF with ⟨h18, hF⟩ | ⟨h18, hF⟩
  refine yT h18 ⟨[E2, E8], [], H⟩ ?_
  refine w_skip ?_
  exact ⟨(p0 == 24), hF, (by kernel_rfl)⟩
  refine yF h18 S28 ?_
  refine ysg ⟨[E2, E10], [], H⟩ ?_
  refine w_join (α := (Bool)) (fun x => (⟨[E2, (35, .one .top (.bool x))], [], H⟩ : St)) (fun x => instr_Shape_j8 p0 x = some ra) ?_ ?_
  rintro j19 hF
  replace hF : instr_Shape_j8 p0 j19 = some ra := hF
  unfold instr_Shape_j8 at hF
  exact ⟨j19, hF, (by kernel_rfl)⟩
  rcases if_inv hF with ⟨h20, hF⟩ | ⟨h20, hF⟩
  refine yT h20 ⟨[E2, E10], [], H⟩ ?_
  refine w_skip ?_
  exact ⟨(p0 == 25), hF, (by kernel_rfl)⟩
  refine yF h20 S28 ?_
  refine ysg ⟨[E2, E11], [], H⟩ ?_
  refine w_join (α := (Bool)) (fun x => (⟨[E2, (35, .one .top (.bool x))], [], H⟩ : St)) (fun x => instr_Shape_j9 p0 x = some ra) ?_ ?_
  rintro j21 hF
  replace hF : instr_Shape_j9 p0 j21 = some ra := hF
  unfold instr_Shape_j9 at hF
  exact ⟨j21, hF, (by kernel_rfl)⟩
  rcases if_inv hF with ⟨h22, hF⟩ | ⟨h22, hF⟩
  refine yT h22 ⟨[E2, E11], [], H⟩ ?_
  refine w_skip ?_
  exact ⟨(p0 == 27), hF, (by kernel_rfl)⟩
  refine yF h22 S28 ?_
  refine ysg ⟨[E2, E12], [], H⟩ ?_
  refine w_join (α := (Bool)) (fun x => (⟨[E2, (35, .one .top (.bool x))], [], H⟩ : St)) (fun x => instr_Shape_j10 p0 x = some ra) ?_ ?_
  rintro j23 hF
  replace hF : instr_Shape_j10 p0 j23 = some ra := hF
  unfold instr_Shape_j10 at hF
  exact ⟨j23, hF, (by kernel_rfl)⟩
  rcases if_inv hF with ⟨h24, hF⟩ | ⟨h24, hF⟩
  refine yT h24 ⟨[E2, E12], [], H⟩ ?_
  refine w_skip ?_
  exact ⟨(p0 == 29), hF, (by kernel_rfl)⟩
  refine yF h24 S28 ?_
  refine ysg ⟨[E2, E13], [], H⟩ ?_
  refine w_join (α := (Bool)) (fun x => (⟨[E2, (35, .one .top (.bool x))], [], H⟩ : St)) (fun x => instr_Shape_j11 p0 x = some ra) ?_ ?_
  rintro j25 hF
  replace hF : instr_Shape_j11 p0 j25 = some ra := hF
  unfold instr_Shape_j11 at hF
  exact ⟨j25, hF, (by kernel_rfl)⟩
  rcases if_inv hF with ⟨h26, hF⟩ | ⟨h26, hF⟩
  refine yT h26 ⟨[E2, E13], [], H⟩ ?_
  refine w_skip ?_
  exact ⟨(p0 == 31), hF, (by kernel_rfl)⟩
  refine yF h26 S28 ?_
  refine yg ⟨[E2, (35, .one .top (.bool (p0 == 32)))], [], H⟩ ?_
  exact ⟨(p0 == 32), hF, (by kernel_rfl)⟩
  rcases if_inv hF with ⟨h27, hF⟩ | ⟨h27, hF⟩
  refine yT h27 ⟨[E2, E7], [], H⟩ ?_
  refine w_skip ?_
  exact ⟨(p0 == 6), hF, (by kernel_rfl)⟩
  refine yF h27 S28 ?_
  refine ysg ⟨[E2, E14], [], H⟩ ?_
  refine w_join (α := (Bool)) (fun x => (⟨[E2, (22, .one .top (.bool x))], [], H⟩ : St)) (fun x => instr_Shape_j12 p0 x = some ra) ?_ ?_
  rintro j28 hF
  replace hF : instr_Shape_j12 p0 j28 = some ra := hF
  unfold instr_Shape_j12 at hF
  exact ⟨j28, hF, (by kernel_rfl)⟩
  rcases if_inv hF with ⟨h29, hF⟩ | ⟨h29, hF⟩
  refine yT h29 ⟨[E2, E14], [], H⟩ ?_
  refine w_skip ?_
  exact ⟨(p0 == 7), hF, (by kernel_rfl)⟩
  refine yF h29 S28 ?_
  refine ysg ⟨[E2, E15], [], H⟩ ?_
  refine w_join (α := (Bool)) (fun x => (⟨[E2, (22, .one .top (.bool x))], [], H⟩ : St)) (fun x => instr_Shape_j13 p0 x = some ra) ?_ ?_
  rintro j30 hF
  replace hF : instr_Shape_j13 p0 j30 = some ra := hF
  unfold instr_Shape_j13 at hF
  exact ⟨j30, hF, (by kernel_rfl)⟩
  rcases if_inv hF with ⟨h31, hF⟩ | ⟨h31, hF⟩
  refine yT h31 ⟨[E2, E15], [], H⟩ ?_
  refine w_skip ?_
  exact ⟨(p0 == 8), hF, (by kernel_rfl)⟩
  refine yF h31 S28 ?_
  refine ysg ⟨[E2, E16], [], H⟩ ?_
  refine w_join (α := (Bool)) (fun x => (⟨[E2, (22, .one .top (.bool x))], [], H⟩ : St)) (fun x => instr_Shape_j14 p0 x = some ra) ?_ ?_
  rintro j32 hF
  replace hF : instr_Shape_j14 p0 j32 = some ra := hF
  unfold instr_Shape_j14 at hF
  exact ⟨j32, hF, (by kernel_rfl)⟩
  rcases if_inv hF with ⟨h33, hF⟩ | ⟨h33, hF⟩
  refine yT h33 ⟨[E2, E16], [], H⟩ ?_
  refine w_skip ?_
  exact ⟨(p0 == 9), hF, (by kernel_rfl)⟩
  refine yF h33 S28 ?_
  refine ysg ⟨[E2, E17], [], H⟩ ?_
  refine w_join (α := (Bool)) (fun x => (⟨[E2, (22, .one .top (.bool x))], [], H⟩ : St)) (fun x => instr_Shape_j15 p0 x = some ra) ?_ ?_
  rintro j34 hF
  replace hF : instr_Shape_j15 p0 j34 = some ra := hF
  unfold instr_Shape_j15 at hF
  exact ⟨j34, hF, (by kernel_rfl)⟩
  rcases if_inv hF with ⟨h35, hF⟩ | ⟨h35, hF⟩
  refine yT h35 ⟨[E2, E17], [], H⟩ ?_
  refine w_skip ?_
  exact ⟨(p0 == 10), hF, (by kernel_rfl)⟩
  refine yF h35 S28 ?_
  refine ysg ⟨[E2, E18], [], H⟩ ?_
  refine w_join (α := (Bool)) (fun x => (⟨[E2, (22, .one .top (.bool x))], [], H⟩ : St)) (fun x => instr_Shape_j16 p0 x = some ra) ?_ ?_
  rintro j36 hF
  replace hF : instr_Shape_j16 p0 j36 = some ra := hF
  unfold instr_Shape_j16 at hF
  exact ⟨j36, hF, (by kernel_rfl)⟩
  rcases if_inv hF with ⟨h37, hF⟩ | ⟨h37, hF⟩
  refine yT h37 ⟨[E2, E18], [], H⟩ ?_
  refine w_skip ?_
  exact ⟨(p0 == 11), hF, (by kernel_rfl)⟩
  refine yF h37 S28 ?_
  refine ysg ⟨[E2, E19], [], H⟩ ?_
  refine w_join (α := (Bool)) (fun x => (⟨[E2, (22, .one .top (.bool x))], [], H⟩ : St)) (fun x => instr_Shape_j17 p0 x = some ra) ?_ ?_
  rintro j38 hF
  replace hF : instr_Shape_j17 p0 j38 = some ra := hF
  unfold instr_Shape_j17 at hF
  exact ⟨j38, hF, (by kernel_rfl)⟩
  rcases if_inv hF with ⟨h39, hF⟩ | ⟨h39, hF⟩
  refine yT h39 ⟨[E2, E19], [], H⟩ ?_
  refine w_skip ?_
  exact ⟨(p0 == 12), hF, (by kernel_rfl)⟩
  refine yF h39 S28 ?_
  refine ysg ⟨[E2, E20], [], H⟩ ?_
  refine w_join (α := (Bool)) (fun x => (⟨[E2, (22, .one .top (.bool x))], [], H⟩ : St)) (fun x => instr_Shape_j18 p0 x = some ra) ?_ ?_
  rintro j40 hF
  replace hF : instr_Shape_j18 p0 j40 = some ra := hF
  unfold instr_Shape_j18 at hF
  exact ⟨j40, hF, (by kernel_rfl)⟩
  rcases if_inv hF with ⟨h41, hF⟩ | ⟨h41, hF⟩
  refine yT h41 ⟨[E2, E20], [], H⟩ ?_
  refine w_skip ?_
  exact ⟨(p0 == 13), hF, (by kernel_rfl)⟩
  refine yF h41 S28 ?_
  refine ysg ⟨[E2, E21], [], H⟩ ?_
  refine w_join (α := (Bool)) (fun x => (⟨[E2, (22, .one .top (.bool x))], [], H⟩ : St)) (fun x => instr_Shape_j19 p0 x = some ra) ?_ ?_
  rintro j42 hF
  replace hF : instr_Shape_j19 p0 j42 = some ra := hF
  unfold instr_Shape_j19 at hF
  exact ⟨j42, hF, (by kernel_rfl)⟩
  rcases if_inv hF with ⟨h43, hF⟩ | ⟨h43, hF⟩
  refine yT h43 ⟨[E2, E21], [], H⟩ ?_
  refine w_skip ?_
  exact ⟨(p0 == 14), hF, (by kernel_rfl)⟩
  refine yF h43 S28 ?_
  refine ysg ⟨[E2, E22], [], H⟩ ?_
  refine w_join (α := (Bool)) (fun x => (⟨[E2, (22, .one .top (.bool x))], [], H⟩ : St)) (fun x => instr_Shape_j20 p0 x = some ra) ?_ ?_
  rintro j44 hF
  replace hF : instr_Shape_j20 p0 j44 = some ra := hF
  unfold instr_Shape_j20 at hF
  exact ⟨j44, hF, (by kernel_rfl)⟩
  rcases if_inv hF with ⟨h45, hF⟩ | ⟨h45, hF⟩
  refine yT h45 ⟨[E2, E22], [], H⟩ ?_
  refine w_skip ?_
  exact ⟨(p0 == 15), hF, (by kernel_rfl)⟩
  refine yF h45 S28 ?_
  refine ysg ⟨[E2, E23], [], H⟩ ?_
  refine w_join (α := (Bool)) (fun x => (⟨[E2, (22, .one .top (.bool x))], [], H⟩ : St)) (fun x => instr_Shape_j21 p0 x = some ra) ?_ ?_
  rintro j46 hF
  replace hF : instr_Shape_j21 p0 j46 = some ra := hF
  unfold instr_Shape_j21 at hF
  exact ⟨j46, hF, (by kernel_rfl)⟩
  rcases if_inv hF with ⟨h47, hF⟩ | ⟨h47, hF⟩
  refine yT h47 ⟨[E2, E23], [], H⟩ ?_
  refine w_skip ?_
  exact ⟨(p0 == 16), hF, (by kernel_rfl)⟩
  refine yF h47 S28 ?_
  refine yg ⟨[E2, (22, .one .top (.bool (p0 == 17)))], [], H⟩ ?_
  exact ⟨(p0 == 17), hF, (by kernel_rfl)⟩
  rcases if_inv hF with ⟨h48, hF⟩ | ⟨h48, hF⟩
  refine yT h48 ⟨[E2, E6], [], H⟩ ?_
  refine w_skip ?_
  exact ⟨(p0 == 4), hF, (by kernel_rfl)⟩
  refine yF h48 S28 ?_
  refine ysg ⟨[E2, E24], [], H⟩ ?_
  refine w_join (α := (Bool)) (fun x => (⟨[E2, (18, .one .top (.bool x))], [], H⟩ : St)) (fun x => instr_Shape_j22 p0 x = some ra) ?_ ?_
  rintro j49 hF
  replace hF : instr_Shape_j22 p0 j49 = some ra := hF
  unfold instr_Shape_j22 at hF
  exact ⟨j49, hF, (by kernel_rfl)⟩
  rcases if_inv hF with ⟨h50, hF⟩ | ⟨h50, hF⟩
  refine yT h50 ⟨[E2, E24], [], H⟩ ?_
  refine w_skip ?_
  exact ⟨(p0 == 34), hF, (by kernel_rfl)⟩
  refine yF h50 S28 ?_
  refine yg ⟨[E2, (18, .one .top (.bool (p0 == 26)))], [], H⟩ ?_
  exact ⟨(p0 == 26), hF, (by kernel_rfl)⟩
  rcases if_inv hF with ⟨h51, hF⟩ | ⟨h51, hF⟩
  refine yT h51 ⟨[E2, E5], [], H⟩ ?_
  refine w_skip ?_
  exact ⟨(p0 == 5), hF, (by kernel_rfl)⟩
  refine yF h51 S28 ?_
  refine ysg ⟨[E2, E25], [], H⟩ ?_
  refine w_join (α := (Bool)) (fun x => (⟨[E2, (14, .one .top (.bool x))], [], H⟩ : St)) (fun x => instr_Shape_j23 p0 x = some ra) ?_ ?_
  rintro j52 hF
  replace hF : instr_Shape_j23 p0 j52 = some ra := hF
  unfold instr_Shape_j23 at hF
  exact ⟨j52, hF, (by kernel_rfl)⟩
  rcases if_inv hF with ⟨h53, hF⟩ | ⟨h53, hF⟩
  refine yT h53 ⟨[E2, E25], [], H⟩ ?_
  refine w_skip ?_
  exact ⟨(p0 == 18), hF, (by kernel_rfl)⟩
  refine yF h53 S28 ?_
  refine yg ⟨[E2, (14, .one .top (.bool (p0 == 19)))], [], H⟩ ?_
  exact ⟨(p0 == 19), hF, (by kernel_rfl)⟩
  rcases if_inv hF with ⟨h54, hF⟩ | ⟨h54, hF⟩
  refine yT h54 ⟨[E2, E4], [], H⟩ ?_
  refine w_skip ?_
  exact ⟨(p0 == 3), hF, (by kernel_rfl)⟩
  refine yF h54 S28 ?_
  refine ysg ⟨[E2, E26], [], H⟩ ?_
  refine w_join (α := (Bool)) (fun x => (⟨[E2, (10, .one .top (.bool x))], [], H⟩ : St)) (fun x => instr_Shape_j24 p0 x = some ra) ?_ ?_
  rintro j55 hF
  replace hF : instr_Shape_j24 p0 j55 = some ra := hF
  unfold instr_Shape_j24 at hF
  exact ⟨j55, hF, (by kernel_rfl)⟩
  rcases if_inv hF with ⟨h56, hF⟩ | ⟨h56, hF⟩
  refine yT h56 ⟨[E2, E26], [], H⟩ ?_
  refine w_skip ?_
  exact ⟨(p0 == 30), hF, (by kernel_rfl)⟩
  refine yF h56 S28 ?_
  refine yg ⟨[E2, (10, .one .top (.bool (p0 == 33)))], [], H⟩ ?_
  exact ⟨(p0 == 33), hF, (by kernel_rfl)⟩
  rcases if_inv hF with ⟨h57, hF⟩ | ⟨h57, hF⟩
  refine yT h57 ⟨[E2, E3], [], H⟩ ?_
  refine w_skip ?_
  exact ⟨(p0 == 2), hF, (by kernel_rfl)⟩
  refine yF h57 S28 ?_
  refine ysg ⟨[E2, E27], [], H⟩ ?_
  refine w_join (α := (Bool)) (fun x => (⟨[E2, (6, .one .top (.bool x))], [], H⟩ : St)) (fun x => instr_Shape_j25 p0 x = some ra) ?_ ?_
  rintro j58 hF
  replace hF : instr_Shape_j25 p0 j58 = some ra := hF
  unfold instr_Shape_j25 at hF
  exact ⟨j58, hF, (by kernel_rfl)⟩
  rcases if_inv hF with ⟨h59, hF⟩ | ⟨h59, hF⟩
  refine yT h59 ⟨[E2, E27], [], H⟩ ?_
  refine w_skip ?_
  exact ⟨(p0 == 20), hF, (by kernel_rfl)⟩
  refine yF h59 S28 ?_
  refine yg ⟨[E2, (6, .one .top (.bool (p0 == 21)))], [], H⟩ ?_
  exact ⟨(p0 == 21), hF, (by kernel_rfl)⟩
noncomputable def instr_reg  (p0 : Int) : Option (Bool) :=
  some ((decide (p0 ≥ 0)) && (decide (p0 < 16)))
theorem ok_instr_reg (H : Heap) {p0 : Int} {ra : Bool} (hF : instr_reg p0 = some ra) : evS X 132 [.one .top (.int .i64 p0)] H = some (.one .top (.bool ra), H) := by
  let E1 : EN := (0, .one .top (.int .i64 p0))
  let E2 : EN := (3, .one .top (.int .i64 p0))
  refine yf Try.func132 true ⟨[E1], [], H⟩ ?_
  unfold instr_reg at hF
  refine ysg ⟨[E1], [], H⟩ ?_
  refine yso ⟨[(2, .one .top (.bool ((decide (p0 ≥ 0)) && (decide (p0 < 16)))))], [], H⟩ ?_ ?_
  refine yr 3 ⟨[E1, E2, (4, .one .top (.bool (decide (p0 ≥ 0)))), (5, .one .top (.bool (decide (p0 ≥ 0))))], [], H⟩ ?_
  rcases bool_cases (decide (p0 ≥ 0)) with h1 | h1
  refine o_eq (congrArg (fun q => (⟨[E1, E2, (4, .one .top (.bool q)), (5, .one .top (.bool q))], [], H⟩ : St)) h1) ?_
  refine yr 4 ⟨[E1, (2, .one .top (.bool (decide (p0 < 16)))), E2, (4, .one .top (.bool true)), (5, .one .top (.bool true)), (6, .one .top (.int .i64 p0)), (7, .one .top (.bool (decide (p0 < 16)))), (8, .one .top (.bool (decide (p0 < 16))))], [], H⟩ ?_
  refine o_eq2 (congrArg (fun q0 => (⟨[(2, .one .top (.bool q0))], [], H⟩ : St)) (show (decide (p0 < 16)) = ((decide (p0 ≥ 0)) && (decide (p0 < 16))) by simp [h1])) ?_
  exact ye
  refine o_eq (congrArg (fun q => (⟨[E1, E2, (4, .one .top (.bool q)), (5, .one .top (.bool q))], [], H⟩ : St)) h1) ?_
  refine yr 4 ⟨[E1, (2, .one .top (.bool false)), E2, (4, .one .top (.bool false)), (5, .one .top (.bool false)), (6, .tup []), (7, .tup []), (8, .one .top (.bool false))], [], H⟩ ?_
  refine o_eq2 (congrArg (fun q0 => (⟨[(2, .one .top (.bool q0))], [], H⟩ : St)) (show false = ((decide (p0 ≥ 0)) && (decide (p0 < 16))) by simp [h1])) ?_
  exact ye
  refine w_ret ?_
  obtain e0 := some1_inv hF
  subst e0
  exact yp (.one .top (.bool ((decide (p0 ≥ 0)) && (decide (p0 < 16)))))
noncomputable def word_Fits  (p0 : Int) (p1 : Int) : Option (Bool) :=
  if (decide (p1 < 1)) = true then (some false)
  else (bind1 (shlI .i64 (-1) (IntKind.wrap .i64 ((if 40 < p1 then 40 else p1) - 1))) fun v2 =>
  bind1 (if (decide (p0 ≥ v2)) = true then (bind1 (shlI .i64 1 (IntKind.wrap .i64 ((if 40 < p1 then 40 else p1) - 1))) fun v5 =>
  some (decide (p0 < v5))) else (some false)) fun w7 =>
  some w7)
theorem ok_word_Fits (H : Heap) {p0 : Int} {p1 : Int} {ra : Bool} (hF : word_Fits p0 p1 = some ra) : evS X 67 [.one .top (.int .i64 p0), .one .top (.int .i64 p1)] H = some (.one .top (.bool ra), H) := by
  let E1 : EN := (0, .one .top (.int .i64 p0))
  let E2 : EN := (1, .one .top (.int .i64 p1))
  let E3 : EN := (4, .one .top (.bool false))
  let E4 : EN := (5, .one .top (.int .i64 (IntKind.wrap .i64 ((if 40 < p1 then 40 else p1) - 1))))
  let E5 : EN := (11, .one .top (.int .i64 p0))
  let E6 : EN := (12, .one .top (.int .i64 (IntKind.wrap .i64 ((if 40 < p1 then 40 else p1) - 1))))
  let E8 : EN := (14, .one .top (.bool true))
  let E9 : EN := (15, .one .top (.bool true))
  let E10 : EN := (16, .one .top (.int .i64 p0))
  let E11 : EN := (17, .one .top (.int .i64 (IntKind.wrap .i64 ((if 40 < p1 then 40 else p1) - 1))))
  let S13 : St := ⟨[E1, E2], [], H⟩
  let S14 : St := ⟨[E1, E4, E5, E6], [], H⟩
  refine yf Try.func67 true S13 ?_
  unfold word_Fits at hF
  refine ysg S13 ?_
  refine w_seq ?_
  refine ysg ⟨[E1, E2, (7, .one .top (.bool (decide (p1 < 1))))], [], H⟩ ?_
  rcases if_inv hF with ⟨h1, hF⟩ | ⟨h1, hF⟩
  refine yT h1 ⟨[], [], H⟩ ?_
  refine ysg ⟨[E3], [], H⟩ ?_
  refine w_ret ?_
  obtain e0 := some1_inv hF
  subst e0
  exact yp (.one .top (.bool false))
  refine yF h1 S13 ?_
  refine w_skip ?_
  refine ysg ⟨[E1, E4], [], H⟩ ?_
  refine w_seq ?_
  obtain ⟨v2, h3, hF⟩ := bind1_inv hF
  let E7 : EN := (13, .one .top (.int .i64 v2))
  let S15 : St := ⟨[E1, E4, E5, E6, E7, E8, E9, E10, E11], [], H⟩
  obtain ⟨w7, hB8, hF⟩ := bind1_inv hF
  refine w_regO ⟨[(4, .one .top (.bool w7))], [], H⟩ ?_ ?_
  refine yr 2 S14 ?_
  refine o_one ⟨[E1, E4, E5, E6, E7], [], H⟩ (st_binI S14 .i64 h3 (ev_shl (P := X.P) (ty := 3) (x := (.const (.int .i64 (-1)))) (y := (.tmp 12)) (m := .top) (m' := .top) (k := .i64) (k' := .i64) (a := (-1)) (b := (IntKind.wrap .i64 ((if 40 < p1 then 40 else p1) - 1)))) (some 13) (by kernel_rfl) (by kernel_rfl)) ?_
  refine yr 2 ⟨[E1, E4, E5, E6, E7, (14, .one .top (.bool (decide (p0 ≥ v2)))), (15, .one .top (.bool (decide (p0 ≥ v2))))], [], H⟩ ?_
  rcases if_inv hB8 with ⟨h4, hB8⟩ | ⟨h4, hB8⟩
  refine o_eq (congrArg (fun q => (⟨[E1, E4, E5, E6, E7, (14, .one .top (.bool q)), (15, .one .top (.bool q))], [], H⟩ : St)) h4) ?_
  refine yr 2 S15 ?_
  obtain ⟨v5, h6, hB8⟩ := bind1_inv hB8
  let E12 : EN := (18, .one .top (.int .i64 v5))
  refine o_one ⟨[E1, E4, E5, E6, E7, E8, E9, E10, E11, E12], [], H⟩ (st_binI S15 .i64 h6 (ev_shl (P := X.P) (ty := 3) (x := (.const (.int .i64 (1)))) (y := (.tmp 17)) (m := .top) (m' := .top) (k := .i64) (k' := .i64) (a := 1) (b := (IntKind.wrap .i64 ((if 40 < p1 then 40 else p1) - 1)))) (some 18) (by kernel_rfl) (by kernel_rfl)) ?_
  refine yr 3 ⟨[E1, (4, .one .top (.bool (decide (p0 < v5)))), E4, E5, E6, E7, E8, E9, E10, E11, E12, (19, .one .top (.bool (decide (p0 < v5)))), (20, .one .top (.bool (decide (p0 < v5))))], [], H⟩ ?_
  cases hB8
  exact ye
  refine o_eq (congrArg (fun q => (⟨[E1, E4, E5, E6, E7, (14, .one .top (.bool q)), (15, .one .top (.bool q))], [], H⟩ : St)) h4) ?_
  refine yr 6 ⟨[E1, E3, E4, E5, E6, E7, (14, .one .top (.bool false)), (15, .one .top (.bool false)), (16, .tup []), (17, .tup []), (18, .tup []), (19, .tup []), (20, .one .top (.bool false))], [], H⟩ ?_
  cases hB8
  exact ye
  refine w_ret ?_
  obtain e0 := some1_inv hF
  subst e0
  exact yp (.one .top (.bool w7))
noncomputable def word_Within  (p0 : Int) (p1 : Int) : Option (Bool) :=
  bind1 (if (decide (p1 ≥ 0)) = true then (if (decide (p0 ≥ 0)) = true then (bind1 (shlI .i64 1 (if 40 < p1 then 40 else p1)) fun v3 =>
  some (decide (p0 < v3))) else (some false)) else (some false)) fun w5 =>
  some w5
theorem ok_word_Within (H : Heap) {p0 : Int} {p1 : Int} {ra : Bool} (hF : word_Within p0 p1 = some ra) : evS X 138 [.one .top (.int .i64 p0), .one .top (.int .i64 p1)] H = some (.one .top (.bool ra), H) := by
  let E1 : EN := (0, .one .top (.int .i64 p0))
  let E2 : EN := (1, .one .top (.int .i64 p1))
  let E3 : EN := (5, .one .top (.int .i64 p1))
  let E4 : EN := (6, .one .top (.bool true))
  let E5 : EN := (7, .one .top (.bool true))
  let E6 : EN := (8, .one .top (.int .i64 p0))
  let E7 : EN := (9, .one .top (.bool true))
  let E8 : EN := (10, .one .top (.bool true))
  let E9 : EN := (11, .one .top (.bool true))
  let E10 : EN := (12, .one .top (.int .i64 p0))
  let E11 : EN := (13, .one .top (.int .i64 p1))
  let E12 : EN := (14, .one .top (.int .i64 (if 40 < p1 then 40 else p1)))
  let E14 : EN := (4, .one .top (.bool false))
  let E15 : EN := (10, .one .top (.bool false))
  let E16 : EN := (11, .one .top (.bool false))
  let E17 : EN := (17, .one .top (.bool false))
  let S18 : St := ⟨[E1, E2, E3, E4, E5, E6, E7, E8, E9, E10, E11, E12], [], H⟩
  refine yf Try.func138 true ⟨[E1, E2], [], H⟩ ?_
  unfold word_Within at hF
  refine ysg ⟨[E1, E2], [], H⟩ ?_
  refine w_seq ?_
  obtain ⟨w5, hB6, hF⟩ := bind1_inv hF
  refine w_regO ⟨[(4, .one .top (.bool w5))], [], H⟩ ?_ ?_
  refine yr 3 ⟨[E1, E2, E3, (6, .one .top (.bool (decide (p1 ≥ 0)))), (7, .one .top (.bool (decide (p1 ≥ 0))))], [], H⟩ ?_
  rcases if_inv hB6 with ⟨h1, hB6⟩ | ⟨h1, hB6⟩
  refine o_eq (congrArg (fun q => (⟨[E1, E2, E3, (6, .one .top (.bool q)), (7, .one .top (.bool q))], [], H⟩ : St)) h1) ?_
  refine yr 4 ⟨[E1, E2, E3, E4, E5, E6, (9, .one .top (.bool (decide (p0 ≥ 0)))), (10, .one .top (.bool (decide (p0 ≥ 0)))), (11, .one .top (.bool (decide (p0 ≥ 0))))], [], H⟩ ?_
  rcases if_inv hB6 with ⟨h2, hB6⟩ | ⟨h2, hB6⟩
  refine o_eq (congrArg (fun q => (⟨[E1, E2, E3, E4, E5, E6, (9, .one .top (.bool q)), (10, .one .top (.bool q)), (11, .one .top (.bool q))], [], H⟩ : St)) h2) ?_
  refine yr 3 S18 ?_
  obtain ⟨v3, h4, hB6⟩ := bind1_inv hB6
  let E13 : EN := (15, .one .top (.int .i64 v3))
  refine o_one ⟨[E1, E2, E3, E4, E5, E6, E7, E8, E9, E10, E11, E12, E13], [], H⟩ (st_binI S18 .i64 h4 (ev_shl (P := X.P) (ty := 3) (x := (.const (.int .i64 (1)))) (y := (.tmp 14)) (m := .top) (m' := .top) (k := .i64) (k' := .i64) (a := 1) (b := (if 40 < p1 then 40 else p1))) (some 15) (by kernel_rfl) (by kernel_rfl)) ?_
  refine yr 3 ⟨[E1, E2, (4, .one .top (.bool (decide (p0 < v3)))), E3, E4, E5, E6, E7, E8, E9, E10, E11, E12, E13, (16, .one .top (.bool (decide (p0 < v3)))), (17, .one .top (.bool (decide (p0 < v3))))], [], H⟩ ?_
  cases hB6
  exact ye
  refine o_eq (congrArg (fun q => (⟨[E1, E2, E3, E4, E5, E6, (9, .one .top (.bool q)), (10, .one .top (.bool q)), (11, .one .top (.bool q))], [], H⟩ : St)) h2) ?_
  refine yr 7 ⟨[E1, E2, E14, E3, E4, E5, E6, (9, .one .top (.bool false)), E15, E16, (12, .tup []), (13, .tup []), (14, .tup []), (15, .tup []), (16, .tup []), E17], [], H⟩ ?_
  cases hB6
  exact ye
  refine o_eq (congrArg (fun q => (⟨[E1, E2, E3, (6, .one .top (.bool q)), (7, .one .top (.bool q))], [], H⟩ : St)) h1) ?_
  refine yr 11 ⟨[E1, E2, E14, E3, (6, .one .top (.bool false)), (7, .one .top (.bool false)), (8, .tup []), (9, .tup []), E15, E16, (12, .tup []), (13, .tup []), (14, .tup []), (15, .tup []), (16, .tup []), E17], [], H⟩ ?_
  cases hB6
  exact ye
  refine w_ret ?_
  obtain e0 := some1_inv hF
  subst e0
  exact yp (.one .top (.bool w5))
noncomputable def instr_imm_j2 (p0 : T_instr_Instr) (p1 : Int) (j5 : Bool) : Option (Bool) :=
  if j5 = true then (bind1 (word_Within p0.Imm_ 16) fun r7 =>
  some r7)
  else (if (p1 == 7) = true then (bind1 (word_Fits p0.Imm_ 24) fun r10 =>
  some r10)
  else (some (p0.Imm_ == 0)))
noncomputable def instr_imm_j3 (p0 : T_instr_Instr) (p1 : Int) (j13 : Bool) : Option (Bool) :=
  instr_imm_j2 p0 p1 j13
noncomputable def instr_imm_j1 (p0 : T_instr_Instr) (p1 : Int) (j1 : Bool) : Option (Bool) :=
  if j1 = true then (bind1 (word_Fits p0.Imm_ 16) fun r3 =>
  some r3)
  else (if (p1 == 2) = true then (instr_imm_j2 p0 p1 (p1 == 2))
  else (if (p1 == 4) = true then (instr_imm_j3 p0 p1 (p1 == 4))
  else (instr_imm_j3 p0 p1 (p1 == 8))))
noncomputable def instr_imm  (p0 : T_instr_Instr) (p1 : Int) : Option (Bool) :=
  if (p1 == 1) = true then (instr_imm_j1 p0 p1 (p1 == 1))
  else (instr_imm_j1 p0 p1 (p1 == 3))
theorem ok_instr_imm (H : Heap) {p0 : T_instr_Instr} {p1 : Int} {ra : Bool} (hF : instr_imm p0 p1 = some ra) : evS X 133 [.agg (m0_instr_Instr p0), .one .top (.int .i64 p1)] H = some (.one .top (.bool ra), H) := by
  let E1 : EN := (1, .one .top (.int .i64 p1))
  let E2 : EN := (2, .one .top (.loc 2 0))
  let B3 : EB := (2, (m0_instr_Instr p0))
  let E4 : EN := (5, .one .top (.int .i64 p1))
  let E5 : EN := (6, .one .top (.bool (p1 == 1)))
  let E6 : EN := (9, .one .top (.loc 2 4))
  let E7 : EN := (10, .one .top (.int .i64 p0.Imm_))
  let E8 : EN := (12, .one .top (.bool (p1 == 2)))
  let E9 : EN := (16, .one .top (.loc 2 4))
  let E10 : EN := (17, .one .top (.int .i64 p0.Imm_))
  let E11 : EN := (21, .one .top (.loc 2 4))
  let E12 : EN := (22, .one .top (.int .i64 p0.Imm_))
  let E14 : EN := (12, .one .top (.bool (p1 == 4)))
  let S15 : St := ⟨[E2, E4], [B3], H⟩
  let S16 : St := ⟨[E2, E4, E5], [B3], H⟩
  let S17 : St := ⟨[E2], [B3], H⟩
  let S18 : St := ⟨[E2, E6, E7], [B3], H⟩
  let S19 : St := ⟨[E2, E4, E8], [B3], H⟩
  let S20 : St := ⟨[E2, E9, E10], [B3], H⟩
  let S21 : St := ⟨[E2, E11, E12], [B3], H⟩
  let S22 : St := ⟨[E2, E4, E14], [B3], H⟩
  refine yf Try.func133 true ⟨[(0, .agg (m0_instr_Instr p0)), E1], [], H⟩ ?_
  unfold instr_imm at hF
  refine ysg ⟨[E1, E2], [B3], H⟩ ?_
  refine w_seq ?_
  refine ysg S15 ?_
  refine w_block ?_
  refine w_seq ?_
  refine ysg S16 ?_
  refine w_join (α := (Bool)) (fun x => (⟨[E2, E4, (6, .one .top (.bool x))], [B3], H⟩ : St)) (fun x => instr_imm_j1 p0 p1 x = some ra) ?_ ?_
  rintro j1 hF
  replace hF : instr_imm_j1 p0 p1 j1 = some ra := hF
  unfold instr_imm_j1 at hF
  rcases if_inv hF with ⟨h2, hF⟩ | ⟨h2, hF⟩
  refine yT h2 S17 ?_
  refine w_seq ?_
  obtain ⟨r3, c4, hF⟩ := bind1_inv hF
  refine w_regO ⟨[(4, .one .top (.bool r3))], [], H⟩ ?_ ?_
  refine yr 2 S18 ?_
  refine o_one ⟨[E2, E6, E7, (11, .one .top (.bool r3))], [B3], H⟩ (yc (some 11) true false S18 (ok_word_Fits H c4)) ?_
  refine yr 1 ⟨[E2, (4, .one .top (.bool r3)), E6, E7, (11, .one .top (.bool r3))], [B3], H⟩ ?_
  exact ye
  refine w_ret ?_
  obtain e0 := some1_inv hF
  subst e0
  exact yp (.one .top (.bool r3))
  refine yF h2 S15 ?_
  refine w_seq ?_
  refine ysg S19 ?_
  refine w_join (α := (Bool)) (fun x => (⟨[E2, E4, (12, .one .top (.bool x))], [B3], H⟩ : St)) (fun x => instr_imm_j2 p0 p1 x = some ra) ?_ ?_
  rintro j5 hF
  replace hF : instr_imm_j2 p0 p1 j5 = some ra := hF
  unfold instr_imm_j2 at hF
  rcases if_inv hF with ⟨h6, hF⟩ | ⟨h6, hF⟩
  refine yT h6 S17 ?_
  refine w_seq ?_
  obtain ⟨r7, c8, hF⟩ := bind1_inv hF
  refine w_regO ⟨[(4, .one .top (.bool r7))], [], H⟩ ?_ ?_
  refine yr 2 S20 ?_
  refine o_one ⟨[E2, E9, E10, (18, .one .top (.bool r7))], [B3], H⟩ (yc (some 18) true false S20 (ok_word_Within H c8)) ?_
  refine yr 1 ⟨[E2, (4, .one .top (.bool r7)), E9, E10, (18, .one .top (.bool r7))], [B3], H⟩ ?_
  exact ye
  refine w_ret ?_
  obtain e0 := some1_inv hF
  subst e0
  exact yp (.one .top (.bool r7))
  refine yF h6 S15 ?_
  refine ysg ⟨[E2, (19, .one .top (.bool (p1 == 7)))], [B3], H⟩ ?_
  rcases if_inv hF with ⟨h9, hF⟩ | ⟨h9, hF⟩
  refine yT h9 S17 ?_
  refine w_seq ?_
  obtain ⟨r10, c11, hF⟩ := bind1_inv hF
  let E13 : EN := (23, .one .top (.bool r10))
  refine w_regO ⟨[(4, .one .top (.bool r10))], [], H⟩ ?_ ?_
  refine yr 2 S21 ?_
  refine o_one ⟨[E2, E11, E12, E13], [B3], H⟩ (yc (some 23) true false S21 (ok_word_Fits H c11)) ?_
  refine yr 1 ⟨[E2, (4, .one .top (.bool r10)), E11, E12, E13], [B3], H⟩ ?_
  exact ye
  refine w_ret ?_
  obtain e0 := some1_inv hF
  subst e0
  exact yp (.one .top (.bool r10))
  refine yF h9 S17 ?_
  refine w_skip ?_
  refine ysg ⟨[(4, .one .top (.bool (p0.Imm_ == 0)))], [], H⟩ ?_
  refine w_ret ?_
  obtain e0 := some1_inv hF
  subst e0
  exact yp (.one .top (.bool (p0.Imm_ == 0)))
  rcases if_inv hF with ⟨h12, hF⟩ | ⟨h12, hF⟩
  refine yT h12 S19 ?_
  refine w_skip ?_
  exact ⟨(p1 == 2), hF, (by kernel_rfl)⟩
  refine yF h12 S15 ?_
  refine ysg S22 ?_
  refine w_join (α := (Bool)) (fun x => (⟨[E2, E4, (12, .one .top (.bool x))], [B3], H⟩ : St)) (fun x => instr_imm_j3 p0 p1 x = some ra) ?_ ?_
  rintro j13 hF
  replace hF : instr_imm_j3 p0 p1 j13 = some ra := hF
  unfold instr_imm_j3 at hF
  exact ⟨j13, hF, (by kernel_rfl)⟩
  rcases if_inv hF with ⟨h14, hF⟩ | ⟨h14, hF⟩
  refine yT h14 S22 ?_
  refine w_skip ?_
  exact ⟨(p1 == 4), hF, (by kernel_rfl)⟩
  refine yF h14 S15 ?_
  refine yg ⟨[E2, E4, (12, .one .top (.bool (p1 == 8)))], [B3], H⟩ ?_
  exact ⟨(p1 == 8), hF, (by kernel_rfl)⟩
  rcases if_inv hF with ⟨h15, hF⟩ | ⟨h15, hF⟩
  refine yT h15 S16 ?_
  refine w_skip ?_
  exact ⟨(p1 == 1), hF, (by kernel_rfl)⟩
  refine yF h15 S15 ?_
  refine yg ⟨[E2, E4, (6, .one .top (.bool (p1 == 3)))], [B3], H⟩ ?_
  exact ⟨(p1 == 3), hF, (by kernel_rfl)⟩
noncomputable def instr_Check_j2 (j19 : Bool) : Option (Int) :=
  if (!j19) = true then (some 20)
  else (some 0)
noncomputable def instr_Check_j4 (j25 : Bool) : Option (Int) :=
  instr_Check_j2 j25
noncomputable def instr_Check_j5 (j28 : Bool) : Option (Int) :=
  instr_Check_j4 j28
noncomputable def instr_Check_j3 (p0 : T_instr_Instr) (r1 : Int) (j24 : Bool) : Option (Int) :=
  if j24 = true then (instr_Check_j4 ((p0.C_ == 0) && (p0.B_ == 0)))
  else (if (r1 == 5) = true then (instr_Check_j5 true)
  else (instr_Check_j5 (p0.C_ == 0)))
noncomputable def instr_Check_j6 (p0 : T_instr_Instr) (r1 : Int) (j31 : Bool) : Option (Int) :=
  instr_Check_j3 p0 r1 j31
noncomputable def instr_Check_j1 (p0 : T_instr_Instr) (r1 : Int) (j18 : Bool) : Option (Int) :=
  if j18 = true then (instr_Check_j2 ((p0.C_ == 0) && ((p0.A_ == 0) && (p0.B_ == 0))))
  else (if (r1 == 1) = true then (instr_Check_j3 p0 r1 (r1 == 1))
  else (if (r1 == 2) = true then (instr_Check_j6 p0 r1 (r1 == 2))
  else (instr_Check_j6 p0 r1 (r1 == 6))))
noncomputable def instr_Check_j7 (p0 : T_instr_Instr) (r1 : Int) (j34 : Bool) : Option (Int) :=
  instr_Check_j1 p0 r1 j34
noncomputable def instr_Check  (p0 : T_instr_Instr) : Option (Int) :=
  bind1 (instr_Shape p0.Op_) fun r1 =>
  if (decide (r1 < 0)) = true then (some 21)
  else (bind1 (instr_reg p0.A_) fun r4 =>
  bind1 (if (!r4) = true then (some true) else (bind1 (instr_reg p0.B_) fun r7 =>
  if (!r7) = true then (some true) else (bind1 (instr_reg p0.C_) fun r10 =>
  if (!r10) = true then (some true) else (bind1 (instr_imm p0 r1) fun r13 =>
  some (!r13))))) fun w15 =>
  if w15 = true then (some 20)
  else (if (r1 == 0) = true then (instr_Check_j1 p0 r1 (r1 == 0))
  else (if (r1 == 7) = true then (instr_Check_j7 p0 r1 (r1 == 7))
  else (instr_Check_j7 p0 r1 (r1 == 8)))))
theorem ok_instr_Check (H : Heap) {p0 : T_instr_Instr} {ra : Int} (hF : instr_Check p0 = some ra) : evS X 113 [.agg (m0_instr_Instr p0)] H = some (.one .top (.int .i64 ra), H) := by
  let E1 : EN := (1, .one .top (.loc 1 0))
  let B2 : EB := (1, (m0_instr_Instr p0))
  let E4 : EN := (5, .one .top (.loc 1 0))
  let E5 : EN := (6, .one .top (.int .i64 p0.Op_))
  let E7 : EN := (10, .one .top (.loc 1 1))
  let E8 : EN := (11, .one .top (.int .i64 p0.A_))
  let E10 : EN := (19, .one .top (.bool true))
  let E11 : EN := (20, .one .top (.bool true))
  let E12 : EN := (25, .one .top (.bool true))
  let E13 : EN := (26, .one .top (.bool true))
  let E14 : EN := (31, .one .top (.bool true))
  let E15 : EN := (13, .one .top (.bool false))
  let E16 : EN := (14, .one .top (.bool false))
  let E17 : EN := (15, .one .top (.loc 1 2))
  let E18 : EN := (16, .one .top (.int .i64 p0.B_))
  let E20 : EN := (18, .one .top (.bool false))
  let E21 : EN := (19, .one .top (.bool false))
  let E22 : EN := (20, .one .top (.bool false))
  let E23 : EN := (21, .one .top (.loc 1 3))
  let E24 : EN := (22, .one .top (.int .i64 p0.C_))
  let E26 : EN := (24, .one .top (.bool false))
  let E27 : EN := (25, .one .top (.bool false))
  let E28 : EN := (26, .one .top (.bool false))
  let E29 : EN := (27, .agg (m0_instr_Instr p0))
  let E32 : EN := (2, .one .top (.int .i64 20))
  let E33 : EN := (4, .one .top (.bool (p0.C_ == 0)))
  let E36 : EN := (4, .one .top (.bool true))
  let E37 : EN := (40, .one .top (.bool true))
  let E38 : EN := (41, .one .top (.bool true))
  let E39 : EN := (42, .one .top (.loc 1 1))
  let E40 : EN := (43, .one .top (.int .i64 p0.A_))
  let E41 : EN := (4, .one .top (.bool (p0.B_ == 0)))
  let E42 : EN := (4, .one .top (.bool false))
  let E43 : EN := (45, .one .top (.bool false))
  let E44 : EN := (46, .one .top (.bool false))
  let E45 : EN := (50, .one .top (.bool false))
  let S50 : St := ⟨[E1, E4, E5], [B2], H⟩
  let S51 : St := ⟨[], [], H⟩
  refine yf Try.func113 true ⟨[(0, .agg (m0_instr_Instr p0))], [], H⟩ ?_
  unfold instr_Check at hF
  refine ysg ⟨[E1], [B2], H⟩ ?_
  refine w_seq ?_
  obtain ⟨r1, c2, hF⟩ := bind1_inv hF
  let E3 : EN := (3, .one .top (.int .i64 r1))
  let E6 : EN := (7, .one .top (.int .i64 r1))
  let E30 : EN := (28, .one .top (.int .i64 r1))
  let E34 : EN := (35, .one .top (.int .i64 r1))
  let E35 : EN := (36, .one .top (.bool (r1 == 0)))
  let E46 : EN := (51, .one .top (.bool (r1 == 1)))
  let E47 : EN := (51, .one .top (.bool (r1 == 2)))
  let E48 : EN := (36, .one .top (.bool (r1 == 7)))
  let S49 : St := ⟨[E1, E3], [B2], H⟩
  let S52 : St := ⟨[E1, E3, E7, E8], [B2], H⟩
  let S56 : St := ⟨[E1, E33, E34], [B2], H⟩
  let S57 : St := ⟨[E1, E33, E34, E35], [B2], H⟩
  let S58 : St := ⟨[E1, E33, E34, E46], [B2], H⟩
  let S59 : St := ⟨[E1, E33, E34, E47], [B2], H⟩
  let S60 : St := ⟨[E1, E33, E34, E48], [B2], H⟩
  refine w_regO S49 ?_ ?_
  refine yr 2 S50 ?_
  refine o_one ⟨[E1, E4, E5, E6], [B2], H⟩ (yc (some 7) true false S50 (ok_instr_Shape H c2)) ?_
  refine yr 1 ⟨[E1, E3, E4, E5, E6], [B2], H⟩ ?_
  exact ye
  refine w_seq ?_
  refine ysg ⟨[E1, E3, (9, .one .top (.bool (decide (r1 < 0))))], [B2], H⟩ ?_
  rcases if_inv hF with ⟨h3, hF⟩ | ⟨h3, hF⟩
  refine yT h3 S51 ?_
  refine ysg ⟨[(2, .one .top (.int .i64 21))], [], H⟩ ?_
  refine w_ret ?_
  obtain e0 := some1_inv hF
  subst e0
  exact yp (.one .top (.int .i64 21))
  refine yF h3 S49 ?_
  refine w_skip ?_
  refine w_seq ?_
  refine w_seq ?_
  obtain ⟨r4, c5, hF⟩ := bind1_inv hF
  let E9 : EN := (12, .one .top (.bool r4))
  let S53 : St := ⟨[E1, E3, E7, E8, E9, E15, E16, E17, E18], [B2], H⟩
  obtain ⟨w15, hB16, hF⟩ := bind1_inv hF
  refine w_regO ⟨[E1, E3, (31, .one .top (.bool w15))], [B2], H⟩ ?_ ?_
  refine yr 2 S52 ?_
  refine o_one ⟨[E1, E3, E7, E8, E9], [B2], H⟩ (yc (some 12) true false S52 (ok_instr_reg H c5)) ?_
  refine yr 2 ⟨[E1, E3, E7, E8, E9, (13, .one .top (.bool (!r4))), (14, .one .top (.bool (!r4)))], [B2], H⟩ ?_
  rcases if_inv hB16 with ⟨h6, hB16⟩ | ⟨h6, hB16⟩
  refine o_eq (congrArg (fun q => (⟨[E1, E3, E7, E8, E9, (13, .one .top (.bool q)), (14, .one .top (.bool q))], [B2], H⟩ : St)) h6) ?_
  refine yr 17 ⟨[E1, E3, E7, E8, E9, (13, .one .top (.bool true)), (14, .one .top (.bool true)), (15, .tup []), (16, .tup []), (17, .tup []), (18, .tup []), E10, E11, (21, .tup []), (22, .tup []), (23, .tup []), (24, .tup []), E12, E13, (27, .tup []), (28, .tup []), (29, .tup []), (30, .tup []), E14], [B2], H⟩ ?_
  cases hB16
  exact ye
  refine o_eq (congrArg (fun q => (⟨[E1, E3, E7, E8, E9, (13, .one .top (.bool q)), (14, .one .top (.bool q))], [B2], H⟩ : St)) h6) ?_
  refine yr 2 S53 ?_
  obtain ⟨r7, c8, hB16⟩ := bind1_inv hB16
  let E19 : EN := (17, .one .top (.bool r7))
  let S54 : St := ⟨[E1, E3, E7, E8, E9, E15, E16, E17, E18, E19, E20, E21, E22, E23, E24], [B2], H⟩
  refine o_one ⟨[E1, E3, E7, E8, E9, E15, E16, E17, E18, E19], [B2], H⟩ (yc (some 17) true false S53 (ok_instr_reg H c8)) ?_
  refine yr 3 ⟨[E1, E3, E7, E8, E9, E15, E16, E17, E18, E19, (18, .one .top (.bool (!r7))), (19, .one .top (.bool (!r7))), (20, .one .top (.bool (!r7)))], [B2], H⟩ ?_
  rcases if_inv hB16 with ⟨h9, hB16⟩ | ⟨h9, hB16⟩
  refine o_eq (congrArg (fun q => (⟨[E1, E3, E7, E8, E9, E15, E16, E17, E18, E19, (18, .one .top (.bool q)), (19, .one .top (.bool q)), (20, .one .top (.bool q))], [B2], H⟩ : St)) h9) ?_
  refine yr 11 ⟨[E1, E3, E7, E8, E9, E15, E16, E17, E18, E19, (18, .one .top (.bool true)), E10, E11, (21, .tup []), (22, .tup []), (23, .tup []), (24, .tup []), E12, E13, (27, .tup []), (28, .tup []), (29, .tup []), (30, .tup []), E14], [B2], H⟩ ?_
  cases hB16
  exact ye
  refine o_eq (congrArg (fun q => (⟨[E1, E3, E7, E8, E9, E15, E16, E17, E18, E19, (18, .one .top (.bool q)), (19, .one .top (.bool q)), (20, .one .top (.bool q))], [B2], H⟩ : St)) h9) ?_
  refine yr 2 S54 ?_
  obtain ⟨r10, c11, hB16⟩ := bind1_inv hB16
  let E25 : EN := (23, .one .top (.bool r10))
  let S55 : St := ⟨[E1, E3, E7, E8, E9, E15, E16, E17, E18, E19, E20, E21, E22, E23, E24, E25, E26, E27, E28, E29, E30], [B2], H⟩
  refine o_one ⟨[E1, E3, E7, E8, E9, E15, E16, E17, E18, E19, E20, E21, E22, E23, E24, E25], [B2], H⟩ (yc (some 23) true false S54 (ok_instr_reg H c11)) ?_
  refine yr 3 ⟨[E1, E3, E7, E8, E9, E15, E16, E17, E18, E19, E20, E21, E22, E23, E24, E25, (24, .one .top (.bool (!r10))), (25, .one .top (.bool (!r10))), (26, .one .top (.bool (!r10)))], [B2], H⟩ ?_
  rcases if_inv hB16 with ⟨h12, hB16⟩ | ⟨h12, hB16⟩
  refine o_eq (congrArg (fun q => (⟨[E1, E3, E7, E8, E9, E15, E16, E17, E18, E19, E20, E21, E22, E23, E24, E25, (24, .one .top (.bool q)), (25, .one .top (.bool q)), (26, .one .top (.bool q))], [B2], H⟩ : St)) h12) ?_
  refine yr 5 ⟨[E1, E3, E7, E8, E9, E15, E16, E17, E18, E19, E20, E21, E22, E23, E24, E25, (24, .one .top (.bool true)), E12, E13, (27, .tup []), (28, .tup []), (29, .tup []), (30, .tup []), E14], [B2], H⟩ ?_
  cases hB16
  exact ye
  refine o_eq (congrArg (fun q => (⟨[E1, E3, E7, E8, E9, E15, E16, E17, E18, E19, E20, E21, E22, E23, E24, E25, (24, .one .top (.bool q)), (25, .one .top (.bool q)), (26, .one .top (.bool q))], [B2], H⟩ : St)) h12) ?_
  refine yr 2 S55 ?_
  obtain ⟨r13, c14, hB16⟩ := bind1_inv hB16
  let E31 : EN := (29, .one .top (.bool r13))
  refine o_one ⟨[E1, E3, E7, E8, E9, E15, E16, E17, E18, E19, E20, E21, E22, E23, E24, E25, E26, E27, E28, E29, E30, E31], [B2], H⟩ (yc (some 29) true false S55 (ok_instr_imm H c14)) ?_
  refine yr 2 ⟨[E1, E3, E7, E8, E9, E15, E16, E17, E18, E19, E20, E21, E22, E23, E24, E25, E26, E27, E28, E29, E30, E31, (30, .one .top (.bool (!r13))), (31, .one .top (.bool (!r13)))], [B2], H⟩ ?_
  cases hB16
  exact ye
  rcases if_inv hF with ⟨h17, hF⟩ | ⟨h17, hF⟩
  refine yT h17 S51 ?_
  refine ysg ⟨[E32], [], H⟩ ?_
  refine w_ret ?_
  obtain e0 := some1_inv hF
  subst e0
  exact yp (.one .top (.int .i64 20))
  refine yF h17 S49 ?_
  refine w_skip ?_
  refine ysg ⟨[E1, E3, E33], [B2], H⟩ ?_
  refine w_seq ?_
  refine ysg S56 ?_
  refine w_block ?_
  refine w_seq ?_
  refine ysg S57 ?_
  refine w_join (α := (Bool)) (fun x => (⟨[E1, E33, E34, (36, .one .top (.bool x))], [B2], H⟩ : St)) (fun x => instr_Check_j1 p0 r1 x = some ra) ?_ ?_
  rintro j18 hF
  replace hF : instr_Check_j1 p0 r1 j18 = some ra := hF
  unfold instr_Check_j1 at hF
  refine w_join (α := (Bool)) (fun x => (⟨[(4, .one .top (.bool x))], [], H⟩ : St)) (fun x => instr_Check_j2 x = some ra) ?_ ?_
  rintro j19 hF
  replace hF : instr_Check_j2 j19 = some ra := hF
  unfold instr_Check_j2 at hF
  refine w_seq ?_
  refine ysg ⟨[(64, .one .top (.bool (!j19)))], [], H⟩ ?_
  rcases if_inv hF with ⟨h20, hF⟩ | ⟨h20, hF⟩
  refine yT h20 S51 ?_
  refine ysg ⟨[E32], [], H⟩ ?_
  refine w_ret ?_
  obtain e0 := some1_inv hF
  subst e0
  exact yp (.one .top (.int .i64 20))
  refine yF h20 S51 ?_
  refine w_skip ?_
  refine ysg ⟨[(2, .one .top (.int .i64 0))], [], H⟩ ?_
  refine w_ret ?_
  obtain e0 := some1_inv hF
  subst e0
  exact yp (.one .top (.int .i64 0))
  rcases if_inv hF with ⟨h21, hF⟩ | ⟨h21, hF⟩
  refine yT h21 ⟨[E1, E33], [B2], H⟩ ?_
  refine w_regO ⟨[(4, .one .top (.bool ((p0.C_ == 0) && ((p0.A_ == 0) && (p0.B_ == 0)))))], [], H⟩ ?_ ?_
  refine yr 2 ⟨[E1, E33, (40, .one .top (.bool (p0.C_ == 0))), (41, .one .top (.bool (p0.C_ == 0)))], [B2], H⟩ ?_
  rcases bool_cases (p0.C_ == 0) with h22 | h22
  refine o_eq (congrArg (fun q => (⟨[E1, (4, .one .top (.bool q)), (40, .one .top (.bool q)), (41, .one .top (.bool q))], [B2], H⟩ : St)) h22) ?_
  refine yr 5 ⟨[E1, E36, E37, E38, E39, E40, (44, .one .top (.bool (p0.A_ == 0))), (45, .one .top (.bool (p0.A_ == 0))), (46, .one .top (.bool (p0.A_ == 0)))], [B2], H⟩ ?_
  rcases bool_cases (p0.A_ == 0) with h23 | h23
  refine o_eq (congrArg (fun q => (⟨[E1, E36, E37, E38, E39, E40, (44, .one .top (.bool q)), (45, .one .top (.bool q)), (46, .one .top (.bool q))], [B2], H⟩ : St)) h23) ?_
  refine yr 5 ⟨[E1, E41, E37, E38, E39, E40, (44, .one .top (.bool true)), (45, .one .top (.bool true)), (46, .one .top (.bool true)), (47, .one .top (.loc 1 2)), (48, .one .top (.int .i64 p0.B_)), (49, .one .top (.bool (p0.B_ == 0))), (50, .one .top (.bool (p0.B_ == 0)))], [B2], H⟩ ?_
  refine o_eq2 (congrArg (fun q0 => (⟨[(4, .one .top (.bool q0))], [], H⟩ : St)) (show (p0.B_ == 0) = ((p0.C_ == 0) && ((p0.A_ == 0) && (p0.B_ == 0))) by simp [h22, h23])) ?_
  exact ye
  refine o_eq (congrArg (fun q => (⟨[E1, E36, E37, E38, E39, E40, (44, .one .top (.bool q)), (45, .one .top (.bool q)), (46, .one .top (.bool q))], [B2], H⟩ : St)) h23) ?_
  refine yr 5 ⟨[E1, E42, E37, E38, E39, E40, (44, .one .top (.bool false)), E43, E44, (47, .tup []), (48, .tup []), (49, .tup []), E45], [B2], H⟩ ?_
  refine o_eq2 (congrArg (fun q0 => (⟨[(4, .one .top (.bool q0))], [], H⟩ : St)) (show false = ((p0.C_ == 0) && ((p0.A_ == 0) && (p0.B_ == 0))) by simp [h22, h23])) ?_
  exact ye
  refine o_eq (congrArg (fun q => (⟨[E1, (4, .one .top (.bool q)), (40, .one .top (.bool q)), (41, .one .top (.bool q))], [B2], H⟩ : St)) h22) ?_
  refine yr 10 ⟨[E1, E42, (40, .one .top (.bool false)), (41, .one .top (.bool false)), (42, .tup []), (43, .tup []), (44, .tup []), E43, E44, (47, .tup []), (48, .tup []), (49, .tup []), E45], [B2], H⟩ ?_
  refine o_eq2 (congrArg (fun q0 => (⟨[(4, .one .top (.bool q0))], [], H⟩ : St)) (show false = ((p0.C_ == 0) && ((p0.A_ == 0) && (p0.B_ == 0))) by simp [h22])) ?_
  exact ye
  exact ⟨((p0.C_ == 0) && ((p0.A_ == 0) && (p0.B_ == 0))), hF, (by kernel_rfl)⟩
  refine yF h21 S56 ?_
  refine w_seq ?_
  refine ysg S58 ?_
  refine w_join (α := (Bool)) (fun x => (⟨[E1, E33, E34, (51, .one .top (.bool x))], [B2], H⟩ : St)) (fun x => instr_Check_j3 p0 r1 x = some ra) ?_ ?_
  rintro j24 hF
  replace hF : instr_Check_j3 p0 r1 j24 = some ra := hF
  unfold instr_Check_j3 at hF
  refine w_join (α := (Bool)) (fun x => (⟨[(4, .one .top (.bool x))], [], H⟩ : St)) (fun x => instr_Check_j4 x = some ra) ?_ ?_
  rintro j25 hF
  replace hF : instr_Check_j4 j25 = some ra := hF
  unfold instr_Check_j4 at hF
  exact ⟨j25, hF, (by kernel_rfl)⟩
  rcases if_inv hF with ⟨h26, hF⟩ | ⟨h26, hF⟩
  refine yT h26 ⟨[E1, E33], [B2], H⟩ ?_
  refine w_regO ⟨[(4, .one .top (.bool ((p0.C_ == 0) && (p0.B_ == 0))))], [], H⟩ ?_ ?_
  refine yr 2 ⟨[E1, E33, (55, .one .top (.bool (p0.C_ == 0))), (56, .one .top (.bool (p0.C_ == 0)))], [B2], H⟩ ?_
  rcases bool_cases (p0.C_ == 0) with h27 | h27
  refine o_eq (congrArg (fun q => (⟨[E1, (4, .one .top (.bool q)), (55, .one .top (.bool q)), (56, .one .top (.bool q))], [B2], H⟩ : St)) h27) ?_
  refine yr 5 ⟨[E1, E41, (55, .one .top (.bool true)), (56, .one .top (.bool true)), (57, .one .top (.loc 1 2)), (58, .one .top (.int .i64 p0.B_)), (59, .one .top (.bool (p0.B_ == 0))), (60, .one .top (.bool (p0.B_ == 0)))], [B2], H⟩ ?_
  refine o_eq2 (congrArg (fun q0 => (⟨[(4, .one .top (.bool q0))], [], H⟩ : St)) (show (p0.B_ == 0) = ((p0.C_ == 0) && (p0.B_ == 0)) by simp [h27])) ?_
  exact ye
  refine o_eq (congrArg (fun q => (⟨[E1, (4, .one .top (.bool q)), (55, .one .top (.bool q)), (56, .one .top (.bool q))], [B2], H⟩ : St)) h27) ?_
  refine yr 5 ⟨[E1, E42, (55, .one .top (.bool false)), (56, .one .top (.bool false)), (57, .tup []), (58, .tup []), (59, .tup []), (60, .one .top (.bool false))], [B2], H⟩ ?_
  refine o_eq2 (congrArg (fun q0 => (⟨[(4, .one .top (.bool q0))], [], H⟩ : St)) (show false = ((p0.C_ == 0) && (p0.B_ == 0)) by simp [h27])) ?_
  exact ye
  exact ⟨((p0.C_ == 0) && (p0.B_ == 0)), hF, (by kernel_rfl)⟩
  refine yF h26 ⟨[E33, E34], [], H⟩ ?_
  refine ysg ⟨[E33, (61, .one .top (.bool (r1 == 5)))], [], H⟩ ?_
  refine w_join (α := (Bool)) (fun x => (⟨[(4, .one .top (.bool x))], [], H⟩ : St)) (fun x => instr_Check_j5 x = some ra) ?_ ?_
  rintro j28 hF
  replace hF : instr_Check_j5 j28 = some ra := hF
  unfold instr_Check_j5 at hF
  exact ⟨j28, hF, (by kernel_rfl)⟩
  rcases if_inv hF with ⟨h29, hF⟩ | ⟨h29, hF⟩
  refine yT h29 S51 ?_
  refine yg ⟨[E36], [], H⟩ ?_
  exact ⟨true, hF, (by kernel_rfl)⟩
  refine yF h29 ⟨[E33], [], H⟩ ?_
  refine w_skip ?_
  exact ⟨(p0.C_ == 0), hF, (by kernel_rfl)⟩
  rcases if_inv hF with ⟨h30, hF⟩ | ⟨h30, hF⟩
  refine yT h30 S58 ?_
  refine w_skip ?_
  exact ⟨(r1 == 1), hF, (by kernel_rfl)⟩
  refine yF h30 S56 ?_
  refine ysg S59 ?_
  refine w_join (α := (Bool)) (fun x => (⟨[E1, E33, E34, (51, .one .top (.bool x))], [B2], H⟩ : St)) (fun x => instr_Check_j6 p0 r1 x = some ra) ?_ ?_
  rintro j31 hF
  replace hF : instr_Check_j6 p0 r1 j31 = some ra := hF
  unfold instr_Check_j6 at hF
  exact ⟨j31, hF, (by kernel_rfl)⟩
  rcases if_inv hF with ⟨h32, hF⟩ | ⟨h32, hF⟩
  refine yT h32 S59 ?_
  refine w_skip ?_
  exact ⟨(r1 == 2), hF, (by kernel_rfl)⟩
  refine yF h32 S56 ?_
  refine yg ⟨[E1, E33, E34, (51, .one .top (.bool (r1 == 6)))], [B2], H⟩ ?_
  exact ⟨(r1 == 6), hF, (by kernel_rfl)⟩
  rcases if_inv hF with ⟨h33, hF⟩ | ⟨h33, hF⟩
  refine yT h33 S57 ?_
  refine w_skip ?_
  exact ⟨(r1 == 0), hF, (by kernel_rfl)⟩
  refine yF h33 S56 ?_
  refine ysg S60 ?_
  refine w_join (α := (Bool)) (fun x => (⟨[E1, E33, E34, (36, .one .top (.bool x))], [B2], H⟩ : St)) (fun x => instr_Check_j7 p0 r1 x = some ra) ?_ ?_
  rintro j34 hF
  replace hF : instr_Check_j7 p0 r1 j34 = some ra := hF
  unfold instr_Check_j7 at hF
  exact ⟨j34, hF, (by kernel_rfl)⟩
  rcases if_inv hF with ⟨h35, hF⟩ | ⟨h35, hF⟩
  refine yT h35 S60 ?_
  refine w_skip ?_
  exact ⟨(r1 == 7), hF, (by kernel_rfl)⟩
  refine yF h35 S56 ?_
  refine yg ⟨[E1, E33, E34, (36, .one .top (.bool (r1 == 8)))], [B2], H⟩ ?_
  exact ⟨(r1 == 8), hF, (by kernel_rfl)⟩
noncomputable def instr_Encode  (p0 : T_instr_Instr) : Option (Int × Int) :=
  bind1 (instr_Check p0) fun r1 =>
  if (r1 != 0) = true then (some (0, r1))
  else (bind1 (instr_Shape p0.Op_) fun r4 =>
  if (r4 == 7) = true then (some ((bitsOf .or .u32 (IntKind.wrap .u32 ((IntKind.wrap .u32 p0.Op_) * 2 ^ 24)) (bitsOf .and .u32 (IntKind.wrap .u32 p0.Imm_) 16777215)), 0))
  else (some ((bitsOf .or .u32 (bitsOf .or .u32 (bitsOf .or .u32 (bitsOf .or .u32 (IntKind.wrap .u32 ((IntKind.wrap .u32 p0.Op_) * 2 ^ 24)) (IntKind.wrap .u32 ((IntKind.wrap .u32 p0.A_) * 2 ^ 20))) (IntKind.wrap .u32 ((IntKind.wrap .u32 p0.B_) * 2 ^ 16))) (bitsOf .and .u32 (IntKind.wrap .u32 p0.Imm_) 65535)) (IntKind.wrap .u32 p0.C_)), 0)))
theorem ok_instr_Encode (H : Heap) {p0 : T_instr_Instr} {ra : Int} {rb : Int} (hF : instr_Encode p0 = some (ra, rb)) : evS X 88 [.agg (m0_instr_Instr p0)] H = some (.tup [.one .top (.int .u32 ra), .one .top (.int .i64 rb)], H) := by
  let E1 : EN := (1, .one .top (.loc 1 0))
  let B2 : EB := (1, (m0_instr_Instr p0))
  let E4 : EN := (6, .agg (m0_instr_Instr p0))
  let E6 : EN := (5, .one .top (.int .u32 (IntKind.wrap .u32 ((IntKind.wrap .u32 p0.Op_) * 2 ^ 24))))
  let E8 : EN := (15, .one .top (.loc 1 0))
  let E9 : EN := (16, .one .top (.int .i64 p0.Op_))
  let E11 : EN := (3, .one .top (.int .i64 0))
  let S12 : St := ⟨[E1, E6], [B2], H⟩
  let S13 : St := ⟨[E1, E6, E8, E9], [B2], H⟩
  refine yf Try.func88 true ⟨[(0, .agg (m0_instr_Instr p0))], [], H⟩ ?_
  unfold instr_Encode at hF
  refine ysg ⟨[E1], [B2], H⟩ ?_
  refine w_seq ?_
  refine w_seq ?_
  obtain ⟨r1, c2, hF⟩ := bind1_inv hF
  let E3 : EN := (4, .one .top (.int .i64 r1))
  let E5 : EN := (7, .one .top (.int .i64 r1))
  refine w_regO ⟨[E1, E3], [B2], H⟩ ?_ ?_
  refine yr 1 ⟨[E1, E4], [B2], H⟩ ?_
  refine o_one ⟨[E1, E4, E5], [B2], H⟩ (yc (some 7) true false (⟨[E1, E4], [B2], H⟩ : St) (ok_instr_Check H c2)) ?_
  refine yr 1 ⟨[E1, E3, E4, E5], [B2], H⟩ ?_
  exact ye
  refine ysg ⟨[E1, E3, (9, .one .top (.bool (r1 != 0)))], [B2], H⟩ ?_
  rcases if_inv hF with ⟨h3, hF⟩ | ⟨h3, hF⟩
  refine yT h3 ⟨[E3], [], H⟩ ?_
  refine ysg ⟨[(2, .one .top (.int .u32 0)), (3, .one .top (.int .i64 r1))], [], H⟩ ?_
  refine w_ret ?_
  obtain ⟨e0, e1⟩ := some2_inv hF
  subst e0
  subst e1
  exact yp (.tup [.one .top (.int .u32 0), .one .top (.int .i64 r1)])
  refine yF h3 ⟨[E1], [B2], H⟩ ?_
  refine w_skip ?_
  refine ysg S12 ?_
  refine w_seq ?_
  refine w_seq ?_
  obtain ⟨r4, c5, hF⟩ := bind1_inv hF
  let E7 : EN := (18, .one .top (.bool (r4 == 7)))
  let E10 : EN := (17, .one .top (.int .i64 r4))
  refine w_regO ⟨[E1, E6, E7], [B2], H⟩ ?_ ?_
  refine yr 2 S13 ?_
  refine o_one ⟨[E1, E6, E8, E9, E10], [B2], H⟩ (yc (some 17) true false S13 (ok_instr_Shape H c5)) ?_
  refine yr 1 ⟨[E1, E6, E8, E9, E10, E7], [B2], H⟩ ?_
  exact ye
  rcases if_inv hF with ⟨h6, hF⟩ | ⟨h6, hF⟩
  refine yT h6 S12 ?_
  refine ysg ⟨[(2, .one .top (.int .u32 (bitsOf .or .u32 (IntKind.wrap .u32 ((IntKind.wrap .u32 p0.Op_) * 2 ^ 24)) (bitsOf .and .u32 (IntKind.wrap .u32 p0.Imm_) 16777215)))), E11], [], H⟩ ?_
  refine w_ret ?_
  obtain ⟨e0, e1⟩ := some2_inv hF
  subst e0
  subst e1
  exact yp (.tup [.one .top (.int .u32 (bitsOf .or .u32 (IntKind.wrap .u32 ((IntKind.wrap .u32 p0.Op_) * 2 ^ 24)) (bitsOf .and .u32 (IntKind.wrap .u32 p0.Imm_) 16777215))), .one .top (.int .i64 0)])
  refine yF h6 S12 ?_
  refine w_skip ?_
  refine ysg ⟨[(2, .one .top (.int .u32 (bitsOf .or .u32 (bitsOf .or .u32 (bitsOf .or .u32 (bitsOf .or .u32 (IntKind.wrap .u32 ((IntKind.wrap .u32 p0.Op_) * 2 ^ 24)) (IntKind.wrap .u32 ((IntKind.wrap .u32 p0.A_) * 2 ^ 20))) (IntKind.wrap .u32 ((IntKind.wrap .u32 p0.B_) * 2 ^ 16))) (bitsOf .and .u32 (IntKind.wrap .u32 p0.Imm_) 65535)) (IntKind.wrap .u32 p0.C_)))), E11], [], H⟩ ?_
  refine w_ret ?_
  obtain ⟨e0, e1⟩ := some2_inv hF
  subst e0
  subst e1
  exact yp (.tup [.one .top (.int .u32 (bitsOf .or .u32 (bitsOf .or .u32 (bitsOf .or .u32 (bitsOf .or .u32 (IntKind.wrap .u32 ((IntKind.wrap .u32 p0.Op_) * 2 ^ 24)) (IntKind.wrap .u32 ((IntKind.wrap .u32 p0.A_) * 2 ^ 20))) (IntKind.wrap .u32 ((IntKind.wrap .u32 p0.B_) * 2 ^ 16))) (bitsOf .and .u32 (IntKind.wrap .u32 p0.Imm_) 65535)) (IntKind.wrap .u32 p0.C_))), .one .top (.int .i64 0)])
noncomputable def emit_Code_Fail (H : Heap) (p0 : Ptr) (p1 : Int) : Option (Heap) :=
  (p0).bnd fun i1 o2 =>
  bind1 (get_emit_Code H i1 o2) fun x4 =>
  if (x4.err_ == 0) = true then (bnd (set_emit_Code H i1 o2 (T_emit_Code.mk x4.words_ x4.fixups_ x4.marks_ x4.pads_ x4.active_ x4.depth_ x4.most_ p1)) fun H7 =>
  some H7)
  else (some H)
theorem ok_emit_Code_Fail (H : Heap) {p0 : Ptr} {p1 : Int} {Hr : Heap} (hF : emit_Code_Fail H p0 p1 = some Hr) : evS X 69 [.one .top (Ptr.av p0), .one .top (.int .i64 p1)] H = some (.tup [], Hr) := by
  let E1 : EN := (1, .one .top (.int .i64 p1))
  let E9 : EN := (10, .one .top (.int .i64 p1))
  refine yf Try.func69 false ⟨[(0, .one .top (Ptr.av p0)), E1], [], H⟩ ?_
  unfold emit_Code_Fail at hF
  refine w_seq ?_
  obtain ⟨i1, o2, h3, hF⟩ := pbnd_inv hF
  let E2 : EN := (0, .one .top (.obj i1 o2))
  let E4 : EN := (4, .one .top (.obj i1 o2))
  let E5 : EN := (5, .one .top (.obj i1 o2))
  let E6 : EN := (6, .one .top (.obj i1 (o2 + 7)))
  let E8 : EN := (9, .one .top (.obj i1 o2))
  let E10 : EN := (11, .one .top (.obj i1 o2))
  let E11 : EN := (12, .one .top (.obj i1 (o2 + 7)))
  let S12 : St := ⟨[E2, E1, E4, E5, E6], [], H⟩
  let S13 : St := ⟨[E2, E1, E8, E9, E10, E11], [], H⟩
  obtain ⟨x4, V5, hF⟩ := bind1_inv hF
  replace V5 := hgetT_inv V5
  let E3 : EN := (8, .one .top (.bool (x4.err_ == 0)))
  let E7 : EN := (7, .one .top (.int .i64 x4.err_))
  refine w_regO ⟨[E2, E1, E3], [], H⟩ ?_ ?_
  refine yr 1 ⟨[(0, .one .top (Ptr.av p0)), E1, (4, .one .top (Ptr.av p0))], [], H⟩ ?_ (h := (by generalize p0 = qp0; cases qp0 <;> kernel_rfl))
  refine o_eq (congrArg (fun q => (⟨[(0, .one .top (Ptr.av q)), E1, (4, .one .top (Ptr.av q))], [], H⟩ : St)) h3) ?_
  refine yr 1 ⟨[E2, E1, E4, E5], [], H⟩ ?_
  refine yr 1 S12 ?_
  refine o_one ⟨[E2, E1, E4, E5, E6, E7], [], H⟩ (yd (X := X) S12 33 V5 7 1 false (.one .top (.int .i64 x4.err_)) (some 7)) ?_
  refine yr 1 ⟨[E2, E1, E4, E5, E6, E7, E3], [], H⟩ ?_
  exact ye
  rcases if_inv hF with ⟨h6, hF⟩ | ⟨h6, hF⟩
  refine yT h6 ⟨[E2, E1], [], H⟩ ?_
  obtain ⟨H7, h8, hF⟩ := bnd_inv hF
  have V9 : hget H7 i1 o2 8 = some (o_emit_Code (T_emit_Code.mk x4.words_ x4.fixups_ x4.marks_ x4.pads_ x4.active_ x4.depth_ x4.most_ p1)) := by rw [← h8]; exact hset_get V5 rfl
  refine w_regO ⟨[], [], H7⟩ ?_ ?_
  refine yr 4 S13 ?_
  refine o_one ⟨[E2, E1, E8, E9, E10, E11], [], (hset H i1 o2 [((.own 1), .sl 1 (List.map (eI .u32) x4.words_)), ((.own 1), .sl 4 (List.map e_api_Fixup x4.fixups_)), ((.own 1), .sl 2 (List.map e_api_Segment x4.marks_.list_)), ((.own 1), .sl 1 (List.map (eI .i64) x4.pads_)), ((.own 1), .sl 1 (List.map (eI .i64) x4.active_)), (.top, .int .i64 x4.depth_), (.top, .int .i64 x4.most_), (.top, .int .i64 p1)])⟩ (st_st (X := X) (lc := []) (h2 := (hset H i1 o2 [((.own 1), .sl 1 (List.map (eI .u32) x4.words_)), ((.own 1), .sl 4 (List.map e_api_Fixup x4.fixups_)), ((.own 1), .sl 2 (List.map e_api_Segment x4.marks_.list_)), ((.own 1), .sl 1 (List.map (eI .i64) x4.pads_)), ((.own 1), .sl 1 (List.map (eI .i64) x4.active_)), (.top, .int .i64 x4.depth_), (.top, .int .i64 x4.most_), (.top, .int .i64 p1)])) S13 33 V5 7 1 (.one .top (.int .i64 p1)) (by kernel_rfl) (by kernel_rfl) (by kernel_rfl) (by kernel_rfl) (by kernel_rfl) (by kernel_rfl) (hset_sub0 V5 (Nat.le_of_ble_eq_true rfl)) (by kernel_rfl)) ?_
  refine o_eq (congrArg (fun q => (⟨[E2, E1, E8, E9, E10, E11], [], q⟩ : St)) h8) ?_
  exact ye
  obtain e0 := some1_inv hF
  subst e0
  exact yi (.tup [])
  refine yF h6 ⟨[], [], H⟩ ?_
  refine w_skip ?_
  obtain e0 := some1_inv hF
  subst e0
  exact yi (.tup [])
noncomputable def emit_Code_Put_j1 (p0 : Ptr) (j4 : Int) (H5 : Heap) : Option (Heap × Int) :=
  (p0).bnd fun i6 o7 =>
  bind1 (get_emit_Code H5 i6 o7) fun x9 =>
  if (decide ((x9.words_.length : Int) ≥ 16384)) = true then (bind1 (emit_Code_Fail H5 (Ptr.at i6 o7) 242) fun H13 =>
  bind1 (get_emit_Code H13 i6 o7) fun x14 =>
  some (H13, (IntKind.wrap .i64 ((x14.words_.length : Int) - 1))))
  else (bind1 (app 4 x9.words_ ([j4] : List Int)) fun v16 =>
  bnd (set_emit_Code H5 i6 o7 (T_emit_Code.mk v16 x9.fixups_ x9.marks_ x9.pads_ x9.active_ x9.depth_ x9.most_ x9.err_)) fun H18 =>
  some (H18, (IntKind.wrap .i64 ((v16.length : Int) - 1))))
noncomputable def emit_Code_Put (H : Heap) (p0 : Ptr) (p1 : T_instr_Instr) : Option (Heap × Int) :=
  bind2 (instr_Encode p1) fun r1 r2 =>
  if (r2 != 0) = true then (bind1 (emit_Code_Fail H p0 r2) fun H23 =>
  bind2 (instr_Encode (T_instr_Instr.mk 1 0 0 0 0)) fun r24 r25 =>
  emit_Code_Put_j1 p0 r24 H23)
  else (emit_Code_Put_j1 p0 r1 H)
theorem ok_emit_Code_Put (H : Heap) {p0 : Ptr} {p1 : T_instr_Instr} {ra : Int} {Hr : Heap} (hF : emit_Code_Put H p0 p1 = some (Hr, ra)) : evS X 68 [.one .top (Ptr.av p0), .agg (m0_instr_Instr p1)] H = some (.one .top (.int .i64 ra), Hr) := by
  let E1 : Ptr → EN := fun z0 => (0, .one .top (Ptr.av z0))
  let E2 : EN := (3, .one .top (.loc 3 0))
  let B3 : EB := (3, (m0_instr_Instr p1))
  let E6 : EN := (8, .agg (m0_instr_Instr p1))
  let E29 : EN := (40, .one .top .junk)
  let E30 : EN := (42, .one .top .junk)
  let E34 : EN := (43, .one .top .junk)
  let E41 : Ptr → EN := fun z0 => (14, .one .top (Ptr.av z0))
  let E44 : EN := (18, .agg ([(.top, .int .i64 1)] ++ List.replicate 4 (.top, .int .i64 0)))
  let S46 : Ptr → St := fun z0 => ⟨[(E1 z0), E2, E6], [B3], H⟩
  refine yf Try.func68 false ⟨[(E1 p0), (1, .agg (m0_instr_Instr p1))], [], H⟩ ?_
  unfold emit_Code_Put at hF
  refine ysg ⟨[(E1 p0), E2], [B3], H⟩ ?_ (h := (by generalize p0 = qp0; cases qp0 <;> kernel_rfl))
  refine w_seq ?_
  obtain ⟨r1, r2, c3, hF⟩ := bind2_inv hF
  let E4 : EN := (5, .one .top (.int .u32 r1))
  let E5 : EN := (6, .one .top (.int .i64 r2))
  let E7 : EN := (9, .tup [.one .top (.int .u32 r1), .one .top (.int .i64 r2)])
  let E42 : EN := (15, .one .top (.int .i64 r2))
  let S54 : Ptr → St := fun z0 => ⟨[(E1 z0), E5, (E41 z0), E42], [], H⟩
  refine w_regO ⟨[(E1 p0), E4, E5], [], H⟩ ?_ ?_
  refine yr 1 (S46 p0) ?_ (h := (by generalize p0 = qp0; cases qp0 <;> kernel_rfl))
  refine o_one ⟨[(E1 p0), E2, E6, E7], [B3], H⟩ (st_call (d := (some 9)) (fz := false) (pure := true) (own := false) (S46 p0) (ok_instr_Encode H c3) (by generalize p0 = qp0; cases qp0 <;> kernel_rfl) (by generalize p0 = qp0; cases qp0 <;> kernel_rfl)) ?_
  refine yr 5 ⟨[(E1 p0), E2, E4, E5, (7, .tup [.one .top (.int .u32 r1), .one .top (.int .i64 r2)]), E6, E7, (10, .one .top (.int .u32 r1)), (11, .one .top (.int .i64 r2))], [B3], H⟩ ?_ (h := (by generalize p0 = qp0; cases qp0 <;> kernel_rfl))
  exact ye
  refine w_seq ?_
  refine ysg ⟨[(E1 p0), E4, E5, (13, .one .top (.bool (r2 != 0)))], [], H⟩ ?_ (h := (by generalize p0 = qp0; cases qp0 <;> kernel_rfl))
  refine w_join (α := (Int × Heap)) (fun x => (⟨[(E1 p0), (5, .one .top (.int .u32 x.1))], [], x.2⟩ : St)) (fun x => emit_Code_Put_j1 p0 x.1 x.2 = some (Hr, ra)) ?_ ?_
  rintro ⟨j4, H5⟩ hF
  replace hF : emit_Code_Put_j1 p0 j4 H5 = some (Hr, ra) := hF
  let E9 : EN := (5, .one .top (.int .u32 j4))
  let E28 : EN := (41, .one .top (.int .u32 j4))
  unfold emit_Code_Put_j1 at hF
  refine w_seq ?_
  refine w_seq ?_
  obtain ⟨i6, o7, h8, hF⟩ := pbnd_inv hF
  let E8 : EN := (0, .one .top (.obj i6 o7))
  let E11 : EN := (22, .one .top (.obj i6 o7))
  let E12 : EN := (23, .one .top (.obj i6 o7))
  let E13 : EN := (24, .one .top (.obj i6 o7))
  let E16 : EN := (28, .one .top (.obj i6 o7))
  let E18 : EN := (30, .one .top (.obj i6 o7))
  let E19 : EN := (31, .one .top (.obj i6 o7))
  let E20 : EN := (32, .one .top (.obj i6 o7))
  let E23 : EN := (36, .one .top (.obj i6 o7))
  let E24 : EN := (37, .one .top (.obj i6 o7))
  let E25 : EN := (38, .one .top (.obj i6 o7))
  let E26 : EN := (39, .one .top (.obj i6 o7))
  let E32 : EN := (44, .one .top (.obj i6 o7))
  let E33 : EN := (45, .one .top (.obj i6 o7))
  let E36 : EN := (46, .one .top (.obj i6 o7))
  let E37 : EN := (47, .one .top (.obj i6 o7))
  let E38 : EN := (48, .one .top (.obj i6 o7))
  let S47 : St := ⟨[E8, E9, E11, E12, E13], [], H5⟩
  let S51 : St := ⟨[E8, E9, E23, E24, E25, E26], [], H5⟩
  obtain ⟨x9, V10, hF⟩ := bind1_inv hF
  replace V10 := hgetT_inv V10
  let E10 : EN := (27, .one .top (.bool (decide ((x9.words_.length : Int) ≥ 16384))))
  let E14 : EN := (25, .one .bh (.sl 1 (List.map (eI .u32) x9.words_)))
  let E15 : EN := (26, .one .top (.int .i64 (x9.words_.length : Int)))
  let E27 : EN := (40, .one (.own 1) (.sl 1 (List.map (eI .u32) x9.words_)))
  let S48 : St := ⟨[E8, E9, E11, E12, E13, E14], [], H5⟩
  refine w_regO ⟨[E8, E9, E10], [], H5⟩ ?_ ?_
  refine yr 1 ⟨[(E1 p0), E9, (22, .one .top (Ptr.av p0))], [], H5⟩ ?_ (h := (by generalize p0 = qp0; cases qp0 <;> kernel_rfl))
  refine o_eq (congrArg (fun q => (⟨[(0, .one .top (Ptr.av q)), E9, (22, .one .top (Ptr.av q))], [], H5⟩ : St)) h8) ?_
  refine yr 1 ⟨[E8, E9, E11, E12], [], H5⟩ ?_
  refine yr 1 S47 ?_
  refine o_one S48 (yd (X := X) S47 42 V10 0 1 false (.one .bh (.sl 1 (List.map (eI .u32) x9.words_))) (some 25)) ?_
  refine o_one ⟨[E8, E9, E11, E12, E13, E14, E15], [], H5⟩ (yl S48 x9.words_ (eI .u32) (some 26)) ?_
  refine yr 1 ⟨[E8, E9, E11, E12, E13, E14, E15, E10], [], H5⟩ ?_
  exact ye
  rcases if_inv hF with ⟨h11, hF⟩ | ⟨h11, hF⟩
  refine yT h11 ⟨[E8], [], H5⟩ ?_
  refine w_seq ?_
  obtain ⟨H13, c12, hF⟩ := bind1_inv hF
  let S49 : St := ⟨[E8, E18, E19, E20], [], H13⟩
  refine w_regO ⟨[E8], [], H13⟩ ?_ ?_
  refine yr 1 ⟨[E8, E16], [], H5⟩ ?_
  refine o_one ⟨[E8, E16, (29, .tup [])], [], H13⟩ (yc (some 29) false false (⟨[E8, E16], [], H5⟩ : St) (ok_emit_Code_Fail H5 c12)) ?_
  exact ye
  refine w_seq ?_
  obtain ⟨x14, V15, hF⟩ := bind1_inv hF
  replace V15 := hgetT_inv V15
  let E17 : EN := (4, .one .top (.int .i64 (IntKind.wrap .i64 ((x14.words_.length : Int) - 1))))
  let E21 : EN := (33, .one .bh (.sl 1 (List.map (eI .u32) x14.words_)))
  let E22 : EN := (34, .one .top (.int .i64 (x14.words_.length : Int)))
  let S50 : St := ⟨[E8, E18, E19, E20, E21], [], H13⟩
  refine w_regO ⟨[E17], [], H13⟩ ?_ ?_
  refine yr 2 ⟨[E8, E18, E19], [], H13⟩ ?_
  refine yr 1 S49 ?_
  refine o_one S50 (yd (X := X) S49 42 V15 0 1 false (.one .bh (.sl 1 (List.map (eI .u32) x14.words_))) (some 33)) ?_
  refine o_one ⟨[E8, E18, E19, E20, E21, E22], [], H13⟩ (yl S50 x14.words_ (eI .u32) (some 34)) ?_
  refine yr 2 ⟨[E8, E17, E18, E19, E20, E21, E22, (35, .one .top (.int .i64 (IntKind.wrap .i64 ((x14.words_.length : Int) - 1))))], [], H13⟩ ?_
  exact ye
  refine w_ret ?_
  obtain ⟨e0, e1⟩ := some2_inv hF
  subst e0
  subst e1
  exact yi (.one .top (.int .i64 (IntKind.wrap .i64 ((x14.words_.length : Int) - 1))))
  refine yF h11 ⟨[E8, E9], [], H5⟩ ?_
  refine w_skip ?_
  refine w_seq ?_
  obtain ⟨v16, h17, hF⟩ := bind1_inv hF
  let E31 : EN := (43, .one (.own 1) (.sl 1 (List.map (eI .u32) v16)))
  let E35 : EN := (4, .one .top (.int .i64 (IntKind.wrap .i64 ((v16.length : Int) - 1))))
  let E39 : EN := (49, .one .bh (.sl 1 (List.map (eI .u32) v16)))
  let E40 : EN := (50, .one .top (.int .i64 (v16.length : Int)))
  obtain ⟨H18, h19, hF⟩ := bnd_inv hF
  let S52 : St := ⟨[E8, E36, E37, E38], [], H18⟩
  let S53 : St := ⟨[E8, E36, E37, E38, E39], [], H18⟩
  have V20 : hget H18 i6 o7 8 = some (o_emit_Code (T_emit_Code.mk v16 x9.fixups_ x9.marks_ x9.pads_ x9.active_ x9.depth_ x9.most_ x9.err_)) := by rw [← h19]; exact hset_get V10 rfl
  refine w_regO ⟨[E8], [], H18⟩ ?_ ?_
  refine yr 4 S51 ?_
  refine o_one ⟨[E8, E9, E23, E24, E25, E26, E27], [], (hset H5 i6 o7 [(.top, .junk), ((.own 1), .sl 4 (List.map e_api_Fixup x9.fixups_)), ((.own 1), .sl 2 (List.map e_api_Segment x9.marks_.list_)), ((.own 1), .sl 1 (List.map (eI .i64) x9.pads_)), ((.own 1), .sl 1 (List.map (eI .i64) x9.active_)), (.top, .int .i64 x9.depth_), (.top, .int .i64 x9.most_), (.top, .int .i64 x9.err_)])⟩ (st_ldT (X := X) (h2 := (hset H5 i6 o7 [(.top, .junk), ((.own 1), .sl 4 (List.map e_api_Fixup x9.fixups_)), ((.own 1), .sl 2 (List.map e_api_Segment x9.marks_.list_)), ((.own 1), .sl 1 (List.map (eI .i64) x9.pads_)), ((.own 1), .sl 1 (List.map (eI .i64) x9.active_)), (.top, .int .i64 x9.depth_), (.top, .int .i64 x9.most_), (.top, .int .i64 x9.err_)])) S51 42 V10 0 1 false (.one (.own 1) (.sl 1 (List.map (eI .u32) x9.words_))) (some 40) (by kernel_rfl) (by kernel_rfl) (by kernel_rfl) (by kernel_rfl) (by kernel_rfl) (hset_sub0 (k := 0) V10 (Nat.le_of_ble_eq_true rfl)) (by kernel_rfl)) ?_
  refine yr 2 ⟨[E8, E9, E23, E24, E25, E26, E27, E28, (42, .one (.own 1) (.sl 1 (List.map (eI .u32) ([j4] : List Int))))], [], (hset H5 i6 o7 [(.top, .junk), ((.own 1), .sl 4 (List.map e_api_Fixup x9.fixups_)), ((.own 1), .sl 2 (List.map e_api_Segment x9.marks_.list_)), ((.own 1), .sl 1 (List.map (eI .i64) x9.pads_)), ((.own 1), .sl 1 (List.map (eI .i64) x9.active_)), (.top, .int .i64 x9.depth_), (.top, .int .i64 x9.most_), (.top, .int .i64 x9.err_)])⟩ ?_
  refine o_one ⟨[E8, E9, E23, E24, E25, E26, E29, E28, E30, E31], [], (hset H5 i6 o7 [(.top, .junk), ((.own 1), .sl 4 (List.map e_api_Fixup x9.fixups_)), ((.own 1), .sl 2 (List.map e_api_Segment x9.marks_.list_)), ((.own 1), .sl 1 (List.map (eI .i64) x9.pads_)), ((.own 1), .sl 1 (List.map (eI .i64) x9.active_)), (.top, .int .i64 x9.depth_), (.top, .int .i64 x9.most_), (.top, .int .i64 x9.err_)])⟩ (st_app (X := X) (⟨[E8, E9, E23, E24, E25, E26, E29, E28, E30], [], (hset H5 i6 o7 [(.top, .junk), ((.own 1), .sl 4 (List.map e_api_Fixup x9.fixups_)), ((.own 1), .sl 2 (List.map e_api_Segment x9.marks_.list_)), ((.own 1), .sl 1 (List.map (eI .i64) x9.pads_)), ((.own 1), .sl 1 (List.map (eI .i64) x9.active_)), (.top, .int .i64 x9.depth_), (.top, .int .i64 x9.most_), (.top, .int .i64 x9.err_)])⟩ : St) 4 h17 42 42 35 1 0 [(.top, .int .u32 0)] (.own 1) (eI .u32) 0 (some 43) (by kernel_rfl) (by kernel_rfl) (by kernel_rfl) (by kernel_rfl) (by kernel_rfl) (by kernel_rfl) (by kernel_rfl) (by kernel_rfl) (by kernel_rfl) (fun _ => rfl) (by kernel_rfl)) ?_
  refine yr 2 ⟨[E8, E9, E23, E24, E25, E26, E29, E28, E30, E31, E32, E33], [], (hset H5 i6 o7 [(.top, .junk), ((.own 1), .sl 4 (List.map e_api_Fixup x9.fixups_)), ((.own 1), .sl 2 (List.map e_api_Segment x9.marks_.list_)), ((.own 1), .sl 1 (List.map (eI .i64) x9.pads_)), ((.own 1), .sl 1 (List.map (eI .i64) x9.active_)), (.top, .int .i64 x9.depth_), (.top, .int .i64 x9.most_), (.top, .int .i64 x9.err_)])⟩ ?_
  refine o_one ⟨[E8, E9, E23, E24, E25, E26, E29, E28, E30, E34, E32, E33], [], (hset H5 i6 o7 [((.own 1), .sl 1 (List.map (eI .u32) v16)), ((.own 1), .sl 4 (List.map e_api_Fixup x9.fixups_)), ((.own 1), .sl 2 (List.map e_api_Segment x9.marks_.list_)), ((.own 1), .sl 1 (List.map (eI .i64) x9.pads_)), ((.own 1), .sl 1 (List.map (eI .i64) x9.active_)), (.top, .int .i64 x9.depth_), (.top, .int .i64 x9.most_), (.top, .int .i64 x9.err_)])⟩ (st_st (X := X) (lc := []) (h2 := (hset H5 i6 o7 [((.own 1), .sl 1 (List.map (eI .u32) v16)), ((.own 1), .sl 4 (List.map e_api_Fixup x9.fixups_)), ((.own 1), .sl 2 (List.map e_api_Segment x9.marks_.list_)), ((.own 1), .sl 1 (List.map (eI .i64) x9.pads_)), ((.own 1), .sl 1 (List.map (eI .i64) x9.active_)), (.top, .int .i64 x9.depth_), (.top, .int .i64 x9.most_), (.top, .int .i64 x9.err_)])) (⟨[E8, E9, E23, E24, E25, E26, E29, E28, E30, E34, E32, E33], [], (hset H5 i6 o7 [(.top, .junk), ((.own 1), .sl 4 (List.map e_api_Fixup x9.fixups_)), ((.own 1), .sl 2 (List.map e_api_Segment x9.marks_.list_)), ((.own 1), .sl 1 (List.map (eI .i64) x9.pads_)), ((.own 1), .sl 1 (List.map (eI .i64) x9.active_)), (.top, .int .i64 x9.depth_), (.top, .int .i64 x9.most_), (.top, .int .i64 x9.err_)])⟩ : St) 42 (hset_get V10 rfl) 0 1 (.one (.own 1) (.sl 1 (List.map (eI .u32) v16))) (by kernel_rfl) (by kernel_rfl) (by kernel_rfl) (by kernel_rfl) (by kernel_rfl) (by kernel_rfl) (hset_sub V10 rfl (Nat.le_of_ble_eq_true rfl)) (by kernel_rfl)) ?_
  refine o_eq (congrArg (fun q => (⟨[E8, E9, E23, E24, E25, E26, E29, E28, E30, E34, E32, E33], [], q⟩ : St)) h19) ?_
  exact ye
  refine yso ⟨[E35], [], H18⟩ ?_ ?_
  refine yr 3 S52 ?_
  refine o_one S53 (yd (X := X) S52 42 V20 0 1 false (.one .bh (.sl 1 (List.map (eI .u32) v16))) (some 49)) ?_
  refine o_one ⟨[E8, E36, E37, E38, E39, E40], [], H18⟩ (yl S53 v16 (eI .u32) (some 50)) ?_
  refine yr 2 ⟨[E8, E35, E36, E37, E38, E39, E40, (51, .one .top (.int .i64 (IntKind.wrap .i64 ((v16.length : Int) - 1))))], [], H18⟩ ?_
  exact ye
  refine w_ret ?_
  obtain ⟨e0, e1⟩ := some2_inv hF
  subst e0
  subst e1
  exact yi (.one .top (.int .i64 (IntKind.wrap .i64 ((v16.length : Int) - 1))))
  rcases if_inv hF with ⟨h21, hF⟩ | ⟨h21, hF⟩
  refine yT h21 ⟨[(E1 p0), E5], [], H⟩ ?_
  refine w_seq ?_
  obtain ⟨H23, c22, hF⟩ := bind1_inv hF
  let S55 : Ptr → St := fun z0 => ⟨[(E1 z0), E44], [], H23⟩
  refine w_regO ⟨[(E1 p0)], [], H23⟩ ?_ ?_
  refine yr 2 (S54 p0) ?_ (h := (by generalize p0 = qp0; cases qp0 <;> kernel_rfl))
  refine o_one ⟨[(E1 p0), E5, (E41 p0), E42, (16, .tup [])], [], H23⟩ (st_call (d := (some 16)) (fz := false) (pure := false) (own := false) (S54 p0) (ok_emit_Code_Fail H c22) (by generalize p0 = qp0; cases qp0 <;> kernel_rfl) (by generalize p0 = qp0; cases qp0 <;> kernel_rfl)) ?_
  exact ye
  obtain ⟨r24, r25, c26, hF⟩ := bind2_inv hF
  let E43 : EN := (5, .one .top (.int .u32 r24))
  let E45 : EN := (19, .tup [.one .top (.int .u32 r24), .one .top (.int .i64 r25)])
  refine w_regO ⟨[(E1 p0), E43], [], H23⟩ ?_ ?_
  refine yr 1 (S55 p0) ?_ (h := (by generalize p0 = qp0; cases qp0 <;> kernel_rfl))
  refine o_one ⟨[(E1 p0), E44, E45], [], H23⟩ (st_call (d := (some 19)) (fz := false) (pure := true) (own := false) (S55 p0) (ok_instr_Encode H23 c26) (by generalize p0 = qp0; cases qp0 <;> kernel_rfl) (by generalize p0 = qp0; cases qp0 <;> kernel_rfl)) ?_
  refine yr 4 ⟨[(E1 p0), E43, (17, .tup [.one .top (.int .u32 r24), .one .top (.int .i64 r25)]), E44, E45, (20, .one .top (.int .u32 r24)), (21, .one .top (.int .i64 r25))], [], H23⟩ ?_ (h := (by generalize p0 = qp0; cases qp0 <;> kernel_rfl))
  exact ye
  exact ⟨(r24, H23), hF, (by kernel_rfl)⟩
  refine yF h21 ⟨[(E1 p0), E4], [], H⟩ ?_
  refine w_skip ?_
  exact ⟨(r1, H), hF, (by kernel_rfl)⟩
noncomputable def emit_Code_Reg (H : Heap) (p0 : Ptr) (p1 : Int) (p2 : Int) : Option (Heap × Int) :=
  bind2 (emit_Code_Put H p0 (T_instr_Instr.mk p1 p2 0 0 0)) fun H3 r1 =>
  some (H3, r1)
theorem ok_emit_Code_Reg (H : Heap) {p0 : Ptr} {p1 : Int} {p2 : Int} {ra : Int} {Hr : Heap} (hF : emit_Code_Reg H p0 p1 p2 = some (Hr, ra)) : evS X 66 [.one .top (Ptr.av p0), .one .top (.int .i64 p1), .one .top (.int .i64 p2)] H = some (.one .top (.int .i64 ra), Hr) := by
  let E1 : Ptr → EN := fun z0 => (0, .one .top (Ptr.av z0))
  let E2 : EN := (1, .one .top (.int .i64 p1))
  let E3 : EN := (2, .one .top (.int .i64 p2))
  let E5 : Ptr → EN := fun z0 => (7, .one .top (Ptr.av z0))
  let E6 : EN := (8, .one .top (.int .i64 p1))
  let E7 : EN := (9, .one .top (.int .i64 p2))
  let E8 : EN := (10, .agg [(.top, .int .i64 p1), (.top, .int .i64 p2), (.top, .int .i64 0), (.top, .int .i64 0), (.top, .int .i64 0)])
  let S10 : Ptr → St := fun z0 => ⟨[(E1 z0), E2, E3], [], H⟩
  let S11 : Ptr → St := fun z0 => ⟨[(E1 z0), E2, E3, (E5 z0), E6, E7, E8], [], H⟩
  refine yf Try.func66 false (S10 p0) ?_
  unfold emit_Code_Reg at hF
  refine ysg (S10 p0) ?_ (h := (by generalize p0 = qp0; cases qp0 <;> kernel_rfl))
  refine w_seq ?_
  obtain ⟨H3, r1, c2, hF⟩ := bind2_inv hF
  let E4 : EN := (6, .one .top (.int .i64 r1))
  let E9 : EN := (11, .one .top (.int .i64 r1))
  refine w_regO ⟨[E4], [], H3⟩ ?_ ?_
  refine yr 4 (S11 p0) ?_ (h := (by generalize p0 = qp0; cases qp0 <;> kernel_rfl))
  refine o_one ⟨[(E1 p0), E2, E3, (E5 p0), E6, E7, E8, E9], [], H3⟩ (st_call (d := (some 11)) (fz := false) (pure := false) (own := false) (S11 p0) (ok_emit_Code_Put H c2) (by generalize p0 = qp0; cases qp0 <;> kernel_rfl) (by generalize p0 = qp0; cases qp0 <;> kernel_rfl)) ?_
  refine yr 1 ⟨[(E1 p0), E2, E3, E4, (E5 p0), E6, E7, E8, E9], [], H3⟩ ?_ (h := (by generalize p0 = qp0; cases qp0 <;> kernel_rfl))
  exact ye
  refine w_ret ?_
  obtain ⟨e0, e1⟩ := some2_inv hF
  subst e0
  subst e1
  exact yi (.one .top (.int .i64 r1))
noncomputable def law19_begun (H : Heap) : Option (Heap × Ptr) :=
  bind2 (item_New H) fun H3 r1 =>
  bind2 (if r1.isNil = true then (some (r1, true)) else ((r1).bnd fun i5 o6 =>
  bind1 (get_item_Gen H3 i5 o6) fun x8 =>
  some ((Ptr.at i5 o6), x8.Code_.isNil))) fun w10 w11 =>
  if w11 = true then (some (H3, Ptr.nil))
  else ((w10).bnd fun i14 o15 =>
  bind1 (get_item_Gen H3 i14 o15) fun x17 =>
  bind2 (emit_Code_Reg H3 x17.Code_ 1 0) fun H21 r19 =>
  some (H21, (Ptr.at i14 o15)))
theorem ok_law19_begun (H : Heap) {ra : Ptr} {Hr : Heap} (hF : law19_begun H = some (Hr, ra)) : evS X 15 [] H = some (.one .top (Ptr.av ra), Hr) := by
  let E5 : EN := (4, .one .top (.bool false))
  let E6 : EN := (5, .one .top (.bool false))
  let S16 : St := ⟨[], [], H⟩
  refine yf Try.func15 false S16 ?_
  unfold law19_begun at hF
  refine ysg S16 ?_
  refine w_seq ?_
  obtain ⟨H3, r1, c2, hF⟩ := bind2_inv hF
  let E1 : Ptr → EN := fun z0 => (1, .one .top (Ptr.av z0))
  let E3 : Ptr → EN := fun z0 => (3, .one .top (Ptr.av z0))
  let E4 : Ptr → EN := fun z0 => (4, .one .top (.bool z0.isNil))
  let S17 : Ptr → St := fun z0 => ⟨[(E1 z0), (E3 z0)], [], H3⟩
  refine w_regO ⟨[(E1 r1)], [], H3⟩ ?_ ?_
  refine o_one ⟨[(2, .one .top (Ptr.av r1))], [], H3⟩ (st_call (d := (some 2)) (fz := false) (pure := false) (own := false) S16 (ok_item_New H c2) (by generalize r1 = qp0; cases qp0 <;> kernel_rfl) (by generalize r1 = qp0; cases qp0 <;> kernel_rfl)) ?_
  refine yr 1 ⟨[(E1 r1), (2, .one .top (Ptr.av r1))], [], H3⟩ ?_ (h := (by generalize r1 = qp0; cases qp0 <;> kernel_rfl))
  exact ye
  refine w_seq ?_
  refine w_seq ?_
  obtain ⟨w10, w11, hB12, hF⟩ := bind2_inv hF
  let E2 : Ptr → EN := fun z0 => (1, .one .top (Ptr.av z0))
  refine w_regO ⟨[(E2 w10), (11, .one .top (.bool w11))], [], H3⟩ ?_ ?_
  refine yr 1 (S17 r1) ?_ (h := (by generalize r1 = qp0; cases qp0 <;> kernel_rfl))
  refine o_one ⟨[(E1 r1), (E3 r1), (E4 r1)], [], H3⟩ (st_bin (S17 r1) (nil_eql (P := X.P) (ty := 23) (x := (.tmp 3)) (y := (.const (.pointer none))) (m := .top) (m' := .top) r1 (by generalize r1 = qp0; cases qp0 <;> kernel_rfl) (by generalize r1 = qp0; cases qp0 <;> kernel_rfl)) rfl (some 4) (by generalize r1 = qp0; cases qp0 <;> kernel_rfl) (by generalize r1 = qp0; cases qp0 <;> kernel_rfl)) ?_
  refine yr 1 ⟨[(E1 r1), (E3 r1), (E4 r1), (5, .one .top (.bool r1.isNil))], [], H3⟩ ?_ (h := (by generalize r1 = qp0; cases qp0 <;> kernel_rfl))
  rcases if_inv hB12 with ⟨h4, hB12⟩ | ⟨h4, hB12⟩
  refine o_eq (congrArg (fun q => (⟨[(E1 r1), (E3 r1), (4, .one .top (.bool q)), (5, .one .top (.bool q))], [], H3⟩ : St)) h4) ?_
  refine yr 6 ⟨[(E1 r1), (E3 r1), (4, .one .top (.bool true)), (5, .one .top (.bool true)), (6, .tup []), (7, .tup []), (8, .tup []), (9, .tup []), (10, .tup []), (11, .one .top (.bool true))], [], H3⟩ ?_ (h := (by generalize r1 = qp0; cases qp0 <;> kernel_rfl))
  cases hB12
  exact ye
  refine o_eq (congrArg (fun q => (⟨[(E1 r1), (E3 r1), (4, .one .top (.bool q)), (5, .one .top (.bool q))], [], H3⟩ : St)) h4) ?_
  refine yr 1 ⟨[(E1 r1), (E3 r1), E5, E6, (6, .one .top (Ptr.av r1))], [], H3⟩ ?_ (h := (by generalize r1 = qp0; cases qp0 <;> kernel_rfl))
  obtain ⟨i5, o6, h7, hB12⟩ := pbnd_inv hB12
  let E7 : EN := (1, .one .top (.obj i5 o6))
  let E8 : EN := (3, .one .top (.obj i5 o6))
  let E9 : EN := (6, .one .top (.obj i5 o6))
  let E10 : EN := (7, .one .top (.obj i5 o6))
  let E11 : EN := (8, .one .top (.obj i5 o6))
  let S18 : St := ⟨[E7, E8, E5, E6, E9, E10, E11], [], H3⟩
  refine o_eq (congrArg (fun q => (⟨[(1, .one .top (Ptr.av q)), (3, .one .top (Ptr.av q)), E5, E6, (6, .one .top (Ptr.av q))], [], H3⟩ : St)) h7) ?_
  refine yr 1 ⟨[E7, E8, E5, E6, E9, E10], [], H3⟩ ?_
  obtain ⟨x8, V9, hB12⟩ := bind1_inv hB12
  replace V9 := hgetT_inv V9
  refine yr 1 S18 ?_ (h := (by generalize x8.Code_ = qp0; generalize x8.Proc_.frame_ = qp1; cases qp0 <;> cases qp1 <;> kernel_rfl))
  refine o_one ⟨[E7, E8, E5, E6, E9, E10, E11, (9, .one .top (Ptr.av x8.Code_))], [], H3⟩ (yd (X := X) S18 26 V9 0 1 false (.one .top (Ptr.av x8.Code_)) (some 9) (hs := (by generalize x8.Code_ = qp0; generalize x8.Proc_.frame_ = qp1; cases qp0 <;> cases qp1 <;> kernel_rfl))) ?_
  refine o_one ⟨[E7, E8, E5, E6, E9, E10, E11, (9, .one .top (Ptr.av x8.Code_)), (10, .one .top (.bool x8.Code_.isNil))], [], H3⟩ (st_bin (⟨[E7, E8, E5, E6, E9, E10, E11, (9, .one .top (Ptr.av x8.Code_))], [], H3⟩ : St) (nil_eql (P := X.P) (ty := 26) (x := (.tmp 9)) (y := (.const (.pointer none))) (m := .top) (m' := .top) x8.Code_ (by generalize x8.Code_ = qp0; generalize x8.Proc_.frame_ = qp1; cases qp0 <;> cases qp1 <;> kernel_rfl) (by generalize x8.Code_ = qp0; generalize x8.Proc_.frame_ = qp1; cases qp0 <;> cases qp1 <;> kernel_rfl)) rfl (some 10) (by generalize x8.Code_ = qp0; generalize x8.Proc_.frame_ = qp1; cases qp0 <;> cases qp1 <;> kernel_rfl) (by generalize x8.Code_ = qp0; generalize x8.Proc_.frame_ = qp1; cases qp0 <;> cases qp1 <;> kernel_rfl)) ?_
  refine yr 1 ⟨[E7, E8, E5, E6, E9, E10, E11, (9, .one .top (Ptr.av x8.Code_)), (10, .one .top (.bool x8.Code_.isNil)), (11, .one .top (.bool x8.Code_.isNil))], [], H3⟩ ?_ (h := (by generalize x8.Code_ = qp0; generalize x8.Proc_.frame_ = qp1; cases qp0 <;> cases qp1 <;> kernel_rfl))
  cases hB12
  exact ye
  rcases if_inv hF with ⟨h13, hF⟩ | ⟨h13, hF⟩
  refine yT h13 ⟨[], [], H3⟩ ?_
  refine ysg ⟨[(0, .one .top .nilp)], [], H3⟩ ?_
  refine w_ret ?_
  obtain ⟨e0, e1⟩ := some2_inv hF
  subst e0
  subst e1
  exact yi (.one .top .nilp)
  refine yF h13 ⟨[(E2 w10)], [], H3⟩ ?_
  refine w_skip ?_
  refine w_seq ?_
  obtain ⟨i14, o15, h16, hF⟩ := pbnd_inv hF
  let E12 : EN := (1, .one .top (.obj i14 o15))
  let E13 : EN := (12, .one .top (.obj i14 o15))
  let E14 : EN := (13, .one .top (.obj i14 o15))
  let E15 : EN := (14, .one .top (.obj i14 o15))
  let S19 : St := ⟨[E12, E13, E14, E15], [], H3⟩
  obtain ⟨x17, V18, hF⟩ := bind1_inv hF
  replace V18 := hgetT_inv V18
  obtain ⟨H21, r19, c20, hF⟩ := bind2_inv hF
  refine w_regO ⟨[E12], [], H21⟩ ?_ ?_
  refine yr 1 ⟨[(E2 w10), (12, .one .top (Ptr.av w10))], [], H3⟩ ?_ (h := (by generalize w10 = qp0; cases qp0 <;> kernel_rfl))
  refine o_eq (congrArg (fun q => (⟨[(1, .one .top (Ptr.av q)), (12, .one .top (Ptr.av q))], [], H3⟩ : St)) h16) ?_
  refine yr 1 ⟨[E12, E13, E14], [], H3⟩ ?_
  refine yr 1 S19 ?_ (h := (by generalize x17.Code_ = qp0; generalize x17.Proc_.frame_ = qp1; cases qp0 <;> cases qp1 <;> kernel_rfl))
  refine o_one ⟨[E12, E13, E14, E15, (15, .one .top (Ptr.av x17.Code_))], [], H3⟩ (yd (X := X) S19 26 V18 0 1 false (.one .top (Ptr.av x17.Code_)) (some 15) (hs := (by generalize x17.Code_ = qp0; generalize x17.Proc_.frame_ = qp1; cases qp0 <;> cases qp1 <;> kernel_rfl))) ?_
  refine o_one ⟨[E12, E13, E14, E15, (15, .one .top (Ptr.av x17.Code_)), (16, .one .top (.int .i64 r19))], [], H21⟩ (st_call (d := (some 16)) (fz := false) (pure := false) (own := false) (⟨[E12, E13, E14, E15, (15, .one .top (Ptr.av x17.Code_))], [], H3⟩ : St) (ok_emit_Code_Reg H3 c20) (by generalize x17.Code_ = qp0; generalize x17.Proc_.frame_ = qp1; cases qp0 <;> cases qp1 <;> kernel_rfl) (by generalize x17.Code_ = qp0; generalize x17.Proc_.frame_ = qp1; cases qp0 <;> cases qp1 <;> kernel_rfl)) ?_
  exact ye
  refine ysg ⟨[(0, .one .top (.obj i14 o15))], [], H21⟩ ?_
  refine w_ret ?_
  obtain ⟨e0, e1⟩ := some2_inv hF
  subst e0
  subst e1
  exact yi (.one .top (.obj i14 o15))
noncomputable def emit_Code_Number (H : Heap) (p0 : Ptr) (p1 : Int) (p2 : Int) : Option (Heap) :=
  bind1 (word_Fits (IntKind.wrap .i64 p2) 16) fun r1 =>
  if r1 = true then (bind2 (emit_Code_Put H p0 (T_instr_Instr.mk 2 p1 0 0 (IntKind.wrap .i64 p2))) fun H6 r4 =>
  some H6)
  else (bind2 (emit_Code_Put H p0 (T_instr_Instr.mk 3 p1 0 0 (IntKind.wrap .i64 (Int.fdiv (IntKind.wrap .u32 p2) (2 ^ 16))))) fun H9 r7 =>
  bind2 (emit_Code_Put H9 p0 (T_instr_Instr.mk 4 p1 p1 0 (IntKind.wrap .i64 (bitsOf .and .u32 (IntKind.wrap .u32 p2) 65535)))) fun H12 r10 =>
  some H12)
theorem ok_emit_Code_Number (H : Heap) {p0 : Ptr} {p1 : Int} {p2 : Int} {Hr : Heap} (hF : emit_Code_Number H p0 p1 p2 = some Hr) : evS X 16 [.one .top (Ptr.av p0), .one .top (.int .i64 p1), .one .top (.int .i32 p2)] H = some (.tup [], Hr) := by
  let E1 : Ptr → EN := fun z0 => (0, .one .top (Ptr.av z0))
  let E2 : EN := (1, .one .top (.int .i64 p1))
  let E3 : EN := (2, .one .top (.int .i32 p2))
  let E4 : EN := (6, .one .top (.int .i32 p2))
  let E5 : EN := (7, .one .top (.int .i64 (IntKind.wrap .i64 p2)))
  let E6 : Ptr → EN := fun z0 => (9, .one .top (Ptr.av z0))
  let E7 : EN := (10, .one .top (.int .i64 p1))
  let E8 : EN := (11, .one .top (.int .i32 p2))
  let E9 : EN := (12, .one .top (.int .i64 (IntKind.wrap .i64 p2)))
  let E10 : EN := (13, .agg [(.top, .int .i64 2), (.top, .int .i64 p1), (.top, .int .i64 0), (.top, .int .i64 0), (.top, .int .i64 (IntKind.wrap .i64 p2))])
  let E11 : Ptr → EN := fun z0 => (15, .one .top (Ptr.av z0))
  let E12 : EN := (16, .one .top (.int .i64 p1))
  let E13 : EN := (17, .one .top (.int .i32 p2))
  let E14 : EN := (18, .one .top (.int .u32 (IntKind.wrap .u32 p2)))
  let E15 : EN := (19, .one .top (.int .u32 (Int.fdiv (IntKind.wrap .u32 p2) (2 ^ 16))))
  let E16 : EN := (20, .one .top (.int .i64 (IntKind.wrap .i64 (Int.fdiv (IntKind.wrap .u32 p2) (2 ^ 16)))))
  let E17 : EN := (21, .agg [(.top, .int .i64 3), (.top, .int .i64 p1), (.top, .int .i64 0), (.top, .int .i64 0), (.top, .int .i64 (IntKind.wrap .i64 (Int.fdiv (IntKind.wrap .u32 p2) (2 ^ 16))))])
  let E18 : Ptr → EN := fun z0 => (23, .one .top (Ptr.av z0))
  let E19 : EN := (24, .one .top (.int .i64 p1))
  let E20 : EN := (25, .one .top (.int .i64 p1))
  let E21 : EN := (26, .one .top (.int .i32 p2))
  let E22 : EN := (27, .one .top (.int .u32 (IntKind.wrap .u32 p2)))
  let E23 : EN := (28, .one .top (.int .u32 (bitsOf .and .u32 (IntKind.wrap .u32 p2) 65535)))
  let E24 : EN := (29, .one .top (.int .i64 (IntKind.wrap .i64 (bitsOf .and .u32 (IntKind.wrap .u32 p2) 65535))))
  let E25 : EN := (30, .agg [(.top, .int .i64 4), (.top, .int .i64 p1), (.top, .int .i64 p1), (.top, .int .i64 0), (.top, .int .i64 (IntKind.wrap .i64 (bitsOf .and .u32 (IntKind.wrap .u32 p2) 65535)))])
  let S26 : Ptr → St := fun z0 => ⟨[(E1 z0), E2, E3], [], H⟩
  let S27 : Ptr → St := fun z0 => ⟨[(E1 z0), E2, E3, E4, E5], [], H⟩
  let S28 : Ptr → St := fun z0 => ⟨[(E1 z0), E2, E3, (E6 z0), E7, E8, E9, E10], [], H⟩
  let S29 : Ptr → St := fun z0 => ⟨[(E1 z0), E2, E3, (E11 z0), E12, E13, E14, E15, E16, E17], [], H⟩
  refine yf Try.func16 false (S26 p0) ?_
  unfold emit_Code_Number at hF
  refine w_seq ?_
  refine w_seq ?_
  obtain ⟨r1, c2, hF⟩ := bind1_inv hF
  refine w_regO ⟨[(E1 p0), E2, E3, (8, .one .top (.bool r1))], [], H⟩ ?_ ?_
  refine yr 2 (S27 p0) ?_ (h := (by generalize p0 = qp0; cases qp0 <;> kernel_rfl))
  refine o_one ⟨[(E1 p0), E2, E3, E4, E5, (8, .one .top (.bool r1))], [], H⟩ (st_call (d := (some 8)) (fz := false) (pure := true) (own := false) (S27 p0) (ok_word_Fits H c2) (by generalize p0 = qp0; cases qp0 <;> kernel_rfl) (by generalize p0 = qp0; cases qp0 <;> kernel_rfl)) ?_
  exact ye
  rcases if_inv hF with ⟨h3, hF⟩ | ⟨h3, hF⟩
  refine yT h3 (S26 p0) ?_
  refine w_seq ?_
  obtain ⟨H6, r4, c5, hF⟩ := bind2_inv hF
  refine w_regO ⟨[], [], H6⟩ ?_ ?_
  refine yr 5 (S28 p0) ?_ (h := (by generalize p0 = qp0; cases qp0 <;> kernel_rfl))
  refine o_one ⟨[(E1 p0), E2, E3, (E6 p0), E7, E8, E9, E10, (14, .one .top (.int .i64 r4))], [], H6⟩ (st_call (d := (some 14)) (fz := false) (pure := false) (own := false) (S28 p0) (ok_emit_Code_Put H c5) (by generalize p0 = qp0; cases qp0 <;> kernel_rfl) (by generalize p0 = qp0; cases qp0 <;> kernel_rfl)) ?_
  exact ye
  refine w_ret ?_
  obtain e0 := some1_inv hF
  subst e0
  exact yi (.tup [])
  refine yF h3 (S26 p0) ?_
  refine w_skip ?_
  refine w_seq ?_
  obtain ⟨H9, r7, c8, hF⟩ := bind2_inv hF
  let S30 : Ptr → St := fun z0 => ⟨[(E1 z0), E2, E3, (E18 z0), E19, E20, E21, E22, E23, E24, E25], [], H9⟩
  refine w_regO ⟨[(E1 p0), E2, E3], [], H9⟩ ?_ ?_
  refine yr 7 (S29 p0) ?_ (h := (by generalize p0 = qp0; cases qp0 <;> kernel_rfl))
  refine o_one ⟨[(E1 p0), E2, E3, (E11 p0), E12, E13, E14, E15, E16, E17, (22, .one .top (.int .i64 r7))], [], H9⟩ (st_call (d := (some 22)) (fz := false) (pure := false) (own := false) (S29 p0) (ok_emit_Code_Put H c8) (by generalize p0 = qp0; cases qp0 <;> kernel_rfl) (by generalize p0 = qp0; cases qp0 <;> kernel_rfl)) ?_
  exact ye
  obtain ⟨H12, r10, c11, hF⟩ := bind2_inv hF
  refine w_regO ⟨[], [], H12⟩ ?_ ?_
  refine yr 8 (S30 p0) ?_ (h := (by generalize p0 = qp0; cases qp0 <;> kernel_rfl))
  refine o_one ⟨[(E1 p0), E2, E3, (E18 p0), E19, E20, E21, E22, E23, E24, E25, (31, .one .top (.int .i64 r10))], [], H12⟩ (st_call (d := (some 31)) (fz := false) (pure := false) (own := false) (S30 p0) (ok_emit_Code_Put H9 c11) (by generalize p0 = qp0; cases qp0 <;> kernel_rfl) (by generalize p0 = qp0; cases qp0 <;> kernel_rfl)) ?_
  exact ye
  obtain e0 := some1_inv hF
  subst e0
  exact yi (.tup [])
noncomputable def emit_Code_Depth (H : Heap) (p0 : Ptr) : Option (Int) :=
  (p0).bnd fun i1 o2 =>
  bind1 (get_emit_Code H i1 o2) fun x4 =>
  some x4.depth_
theorem ok_emit_Code_Depth (H : Heap) {p0 : Ptr} {ra : Int} (hF : emit_Code_Depth H p0 = some ra) : evS X 27 [.one .top (Ptr.av p0)] H = some (.one .top (.int .i64 ra), H) := by
  let E1 : Ptr → EN := fun z0 => (0, .one .top (Ptr.av z0))
  refine yf Try.func27 true ⟨[(E1 p0)], [], H⟩ ?_
  unfold emit_Code_Depth at hF
  refine ysg ⟨[(E1 p0)], [], H⟩ ?_ (h := (by generalize p0 = qp0; cases qp0 <;> kernel_rfl))
  refine w_seq ?_
  obtain ⟨i1, o2, h3, hF⟩ := pbnd_inv hF
  let E3 : EN := (0, .one .top (.obj i1 o2))
  let E4 : EN := (3, .one .top (.obj i1 o2))
  let E5 : EN := (4, .one .top (.obj i1 o2))
  let E6 : EN := (5, .one .top (.obj i1 (o2 + 5)))
  let S8 : St := ⟨[E3, E4, E5, E6], [], H⟩
  obtain ⟨x4, V5, hF⟩ := bind1_inv hF
  replace V5 := hgetT_inv V5
  let E2 : EN := (2, .one .top (.int .i64 x4.depth_))
  let E7 : EN := (6, .one .top (.int .i64 x4.depth_))
  refine w_regO ⟨[E2], [], H⟩ ?_ ?_
  refine yr 1 ⟨[(E1 p0), (3, .one .top (Ptr.av p0))], [], H⟩ ?_ (h := (by generalize p0 = qp0; cases qp0 <;> kernel_rfl))
  refine o_eq (congrArg (fun q => (⟨[(0, .one .top (Ptr.av q)), (3, .one .top (Ptr.av q))], [], H⟩ : St)) h3) ?_
  refine yr 1 ⟨[E3, E4, E5], [], H⟩ ?_
  refine yr 1 S8 ?_
  refine o_one ⟨[E3, E4, E5, E6, E7], [], H⟩ (yd (X := X) S8 3 V5 5 1 false (.one .top (.int .i64 x4.depth_)) (some 6)) ?_
  refine yr 1 ⟨[E3, E2, E4, E5, E6, E7], [], H⟩ ?_
  exact ye
  refine w_ret ?_
  obtain e0 := some1_inv hF
  subst e0
  exact yp (.one .top (.int .i64 x4.depth_))
noncomputable def emit_Code_Sign (H : Heap) (p0 : Ptr) (p1 : Int) (p2 : Int) (p3 : Int) (p4 : Int) : Option (Heap × Int) :=
  bind2 (emit_Code_Put H p0 (T_instr_Instr.mk p1 p2 p3 0 p4)) fun H3 r1 =>
  some (H3, r1)
theorem ok_emit_Code_Sign (H : Heap) {p0 : Ptr} {p1 : Int} {p2 : Int} {p3 : Int} {p4 : Int} {ra : Int} {Hr : Heap} (hF : emit_Code_Sign H p0 p1 p2 p3 p4 = some (Hr, ra)) : evS X 44 [.one .top (Ptr.av p0), .one .top (.int .i64 p1), .one .top (.int .i64 p2), .one .top (.int .i64 p3), .one .top (.int .i64 p4)] H = some (.one .top (.int .i64 ra), Hr) := by
  let E1 : Ptr → EN := fun z0 => (0, .one .top (Ptr.av z0))
  let E2 : EN := (1, .one .top (.int .i64 p1))
  let E3 : EN := (2, .one .top (.int .i64 p2))
  let E4 : EN := (3, .one .top (.int .i64 p3))
  let E5 : EN := (4, .one .top (.int .i64 p4))
  let E7 : Ptr → EN := fun z0 => (11, .one .top (Ptr.av z0))
  let E8 : EN := (12, .one .top (.int .i64 p1))
  let E9 : EN := (13, .one .top (.int .i64 p2))
  let E10 : EN := (14, .one .top (.int .i64 p3))
  let E11 : EN := (15, .one .top (.int .i64 p4))
  let E12 : EN := (16, .agg [(.top, .int .i64 p1), (.top, .int .i64 p2), (.top, .int .i64 p3), (.top, .int .i64 0), (.top, .int .i64 p4)])
  let S14 : Ptr → St := fun z0 => ⟨[(E1 z0), E2, E3, E4, E5], [], H⟩
  let S15 : Ptr → St := fun z0 => ⟨[(E1 z0), E2, E3, E4, E5, (E7 z0), E8, E9, E10, E11, E12], [], H⟩
  refine yf Try.func44 false (S14 p0) ?_
  unfold emit_Code_Sign at hF
  refine ysg (S14 p0) ?_ (h := (by generalize p0 = qp0; cases qp0 <;> kernel_rfl))
  refine w_seq ?_
  obtain ⟨H3, r1, c2, hF⟩ := bind2_inv hF
  let E6 : EN := (10, .one .top (.int .i64 r1))
  let E13 : EN := (17, .one .top (.int .i64 r1))
  refine w_regO ⟨[E6], [], H3⟩ ?_ ?_
  refine yr 6 (S15 p0) ?_ (h := (by generalize p0 = qp0; cases qp0 <;> kernel_rfl))
  refine o_one ⟨[(E1 p0), E2, E3, E4, E5, (E7 p0), E8, E9, E10, E11, E12, E13], [], H3⟩ (st_call (d := (some 17)) (fz := false) (pure := false) (own := false) (S15 p0) (ok_emit_Code_Put H c2) (by generalize p0 = qp0; cases qp0 <;> kernel_rfl) (by generalize p0 = qp0; cases qp0 <;> kernel_rfl)) ?_
  refine yr 1 ⟨[(E1 p0), E2, E3, E4, E5, E6, (E7 p0), E8, E9, E10, E11, E12, E13], [], H3⟩ ?_ (h := (by generalize p0 = qp0; cases qp0 <;> kernel_rfl))
  exact ye
  refine w_ret ?_
  obtain ⟨e0, e1⟩ := some2_inv hF
  subst e0
  subst e1
  exact yi (.one .top (.int .i64 r1))
noncomputable def emit_Code_Push (H : Heap) (p0 : Ptr) (p1 : Int) : Option (Heap) :=
  bind2 (emit_Code_Sign H p0 5 15 15 (-4)) fun H3 r1 =>
  bind2 (emit_Code_Sign H3 p0 19 p1 15 0) fun H6 r4 =>
  (p0).bnd fun i7 o8 =>
  bind1 (get_emit_Code H6 i7 o8) fun x10 =>
  bnd (set_emit_Code H6 i7 o8 (T_emit_Code.mk x10.words_ x10.fixups_ x10.marks_ x10.pads_ x10.active_ (IntKind.wrap .i64 (x10.depth_ + 1)) x10.most_ x10.err_)) fun H12 =>
  bnd (set_emit_Code H12 i7 o8 (T_emit_Code.mk x10.words_ x10.fixups_ x10.marks_ x10.pads_ x10.active_ (IntKind.wrap .i64 (x10.depth_ + 1)) (if (IntKind.wrap .i64 (x10.depth_ + 1)) > x10.most_ then (IntKind.wrap .i64 (x10.depth_ + 1)) else x10.most_) x10.err_)) fun H15 =>
  some H15
theorem ok_emit_Code_Push (H : Heap) {p0 : Ptr} {p1 : Int} {Hr : Heap} (hF : emit_Code_Push H p0 p1 = some Hr) : evS X 70 [.one .top (Ptr.av p0), .one .top (.int .i64 p1)] H = some (.tup [], Hr) := by
  let E1 : Ptr → EN := fun z0 => (0, .one .top (Ptr.av z0))
  let E2 : EN := (1, .one .top (.int .i64 p1))
  let E3 : Ptr → EN := fun z0 => (4, .one .top (Ptr.av z0))
  let E4 : Ptr → EN := fun z0 => (6, .one .top (Ptr.av z0))
  let E5 : EN := (7, .one .top (.int .i64 p1))
  let S26 : Ptr → St := fun z0 => ⟨[(E1 z0), E2, (E3 z0)], [], H⟩
  refine yf Try.func70 false ⟨[(E1 p0), E2], [], H⟩ ?_
  unfold emit_Code_Push at hF
  refine w_seq ?_
  obtain ⟨H3, r1, c2, hF⟩ := bind2_inv hF
  let S27 : Ptr → St := fun z0 => ⟨[(E1 z0), E2, (E4 z0), E5], [], H3⟩
  refine w_regO ⟨[(E1 p0), E2], [], H3⟩ ?_ ?_
  refine yr 1 (S26 p0) ?_ (h := (by generalize p0 = qp0; cases qp0 <;> kernel_rfl))
  refine o_one ⟨[(E1 p0), E2, (E3 p0), (5, .one .top (.int .i64 r1))], [], H3⟩ (st_call (d := (some 5)) (fz := false) (pure := false) (own := false) (S26 p0) (ok_emit_Code_Sign H c2) (by generalize p0 = qp0; cases qp0 <;> kernel_rfl) (by generalize p0 = qp0; cases qp0 <;> kernel_rfl)) ?_
  exact ye
  refine w_seq ?_
  obtain ⟨H6, r4, c5, hF⟩ := bind2_inv hF
  refine w_regO ⟨[(E1 p0)], [], H6⟩ ?_ ?_
  refine yr 2 (S27 p0) ?_ (h := (by generalize p0 = qp0; cases qp0 <;> kernel_rfl))
  refine o_one ⟨[(E1 p0), E2, (E4 p0), E5, (8, .one .top (.int .i64 r4))], [], H6⟩ (st_call (d := (some 8)) (fz := false) (pure := false) (own := false) (S27 p0) (ok_emit_Code_Sign H3 c5) (by generalize p0 = qp0; cases qp0 <;> kernel_rfl) (by generalize p0 = qp0; cases qp0 <;> kernel_rfl)) ?_
  exact ye
  refine w_seq ?_
  obtain ⟨i7, o8, h9, hF⟩ := pbnd_inv hF
  let E6 : EN := (0, .one .top (.obj i7 o8))
  let E7 : EN := (9, .one .top (.obj i7 o8))
  let E8 : EN := (10, .one .top (.obj i7 o8))
  let E9 : EN := (11, .one .top (.obj i7 (o8 + 5)))
  let E12 : EN := (14, .one .top (.obj i7 o8))
  let E13 : EN := (15, .one .top (.obj i7 (o8 + 5)))
  let E14 : EN := (16, .one .top (.obj i7 o8))
  let E15 : EN := (17, .one .top (.obj i7 o8))
  let E16 : EN := (18, .one .top (.obj i7 o8))
  let E17 : EN := (19, .one .top (.obj i7 (o8 + 6)))
  let E18 : EN := (21, .one .top (.obj i7 o8))
  let E19 : EN := (22, .one .top (.obj i7 o8))
  let E20 : EN := (23, .one .top (.obj i7 (o8 + 5)))
  let E24 : EN := (26, .one .top (.obj i7 o8))
  let E25 : EN := (27, .one .top (.obj i7 (o8 + 6)))
  let S28 : St := ⟨[E6, E7, E8, E9], [], H6⟩
  obtain ⟨x10, V11, hF⟩ := bind1_inv hF
  replace V11 := hgetT_inv V11
  let E10 : EN := (12, .one .top (.int .i64 x10.depth_))
  let E11 : EN := (13, .one .top (.int .i64 (IntKind.wrap .i64 (x10.depth_ + 1))))
  let E21 : EN := (20, .one .top (.int .i64 x10.most_))
  let E22 : EN := (24, .one .top (.int .i64 (IntKind.wrap .i64 (x10.depth_ + 1))))
  let E23 : EN := (25, .one .top (.int .i64 (if (IntKind.wrap .i64 (x10.depth_ + 1)) > x10.most_ then (IntKind.wrap .i64 (x10.depth_ + 1)) else x10.most_)))
  let S29 : St := ⟨[E6, E7, E8, E9, E10, E11, E12, E13], [], H6⟩
  obtain ⟨H12, h13, hF⟩ := bnd_inv hF
  let S30 : St := ⟨[E6, E14, E15, E16, E17, E18, E19, E20], [], H12⟩
  let S31 : St := ⟨[E6, E14, E15, E16, E17, E21, E18, E19, E20, E22, E23, E24, E25], [], (hset H12 i7 o8 [((.own 1), .sl 1 (List.map (eI .u32) x10.words_)), ((.own 1), .sl 4 (List.map e_api_Fixup x10.fixups_)), ((.own 1), .sl 2 (List.map e_api_Segment x10.marks_.list_)), ((.own 1), .sl 1 (List.map (eI .i64) x10.pads_)), ((.own 1), .sl 1 (List.map (eI .i64) x10.active_)), (.top, .int .i64 (IntKind.wrap .i64 (x10.depth_ + 1))), (.top, .int .i64 (if (IntKind.wrap .i64 (x10.depth_ + 1)) > x10.most_ then (IntKind.wrap .i64 (x10.depth_ + 1)) else x10.most_)), (.top, .int .i64 x10.err_)])⟩
  let S32 : St := ⟨[E6, E14, E15, E16, E17, E21, E18, E19, E20], [], H12⟩
  let S33 : St := ⟨[E6, E14, E15, E16, E17, E21, E18, E19, E20, E22], [], H12⟩
  let S34 : St := ⟨[E6, E14, E15, E16, E17, E21, E18, E19, E20, E22, E23], [], H12⟩
  let S35 : St := ⟨[E6, E14, E15, E16, E17, E21, E18, E19, E20, E22, E23, E24], [], H12⟩
  let S36 : St := ⟨[E6, E14, E15, E16, E17, E21, E18, E19, E20, E22, E23, E24, E25], [], H12⟩
  let S37 : St := ⟨[E6, E14, E15, E16, E17, E18, E19, E20, E22], [], H12⟩
  have V14 : hget H12 i7 o8 8 = some (o_emit_Code (T_emit_Code.mk x10.words_ x10.fixups_ x10.marks_ x10.pads_ x10.active_ (IntKind.wrap .i64 (x10.depth_ + 1)) x10.most_ x10.err_)) := by rw [← h13]; exact hset_get V11 rfl
  refine w_regO ⟨[E6], [], H12⟩ ?_ ?_
  refine yr 1 ⟨[(E1 p0), (9, .one .top (Ptr.av p0))], [], H6⟩ ?_ (h := (by generalize p0 = qp0; cases qp0 <;> kernel_rfl))
  refine o_eq (congrArg (fun q => (⟨[(0, .one .top (Ptr.av q)), (9, .one .top (Ptr.av q))], [], H6⟩ : St)) h9) ?_
  refine yr 1 ⟨[E6, E7, E8], [], H6⟩ ?_
  refine yr 1 S28 ?_
  refine o_one ⟨[E6, E7, E8, E9, E10], [], H6⟩ (yd (X := X) S28 3 V11 5 1 false (.one .top (.int .i64 x10.depth_)) (some 12)) ?_
  refine yr 3 S29 ?_
  refine o_one ⟨[E6, E7, E8, E9, E10, E11, E12, E13], [], (hset H6 i7 o8 [((.own 1), .sl 1 (List.map (eI .u32) x10.words_)), ((.own 1), .sl 4 (List.map e_api_Fixup x10.fixups_)), ((.own 1), .sl 2 (List.map e_api_Segment x10.marks_.list_)), ((.own 1), .sl 1 (List.map (eI .i64) x10.pads_)), ((.own 1), .sl 1 (List.map (eI .i64) x10.active_)), (.top, .int .i64 (IntKind.wrap .i64 (x10.depth_ + 1))), (.top, .int .i64 x10.most_), (.top, .int .i64 x10.err_)])⟩ (st_st (X := X) (lc := []) (h2 := (hset H6 i7 o8 [((.own 1), .sl 1 (List.map (eI .u32) x10.words_)), ((.own 1), .sl 4 (List.map e_api_Fixup x10.fixups_)), ((.own 1), .sl 2 (List.map e_api_Segment x10.marks_.list_)), ((.own 1), .sl 1 (List.map (eI .i64) x10.pads_)), ((.own 1), .sl 1 (List.map (eI .i64) x10.active_)), (.top, .int .i64 (IntKind.wrap .i64 (x10.depth_ + 1))), (.top, .int .i64 x10.most_), (.top, .int .i64 x10.err_)])) S29 3 V11 5 1 (.one .top (.int .i64 (IntKind.wrap .i64 (x10.depth_ + 1)))) (by kernel_rfl) (by kernel_rfl) (by kernel_rfl) (by kernel_rfl) (by kernel_rfl) (by kernel_rfl) (hset_sub0 V11 (Nat.le_of_ble_eq_true rfl)) (by kernel_rfl)) ?_
  refine o_eq (congrArg (fun q => (⟨[E6, E7, E8, E9, E10, E11, E12, E13], [], q⟩ : St)) h13) ?_
  exact ye
  obtain ⟨H15, h16, hF⟩ := bnd_inv hF
  have V17 : hget H15 i7 o8 8 = some (o_emit_Code (T_emit_Code.mk x10.words_ x10.fixups_ x10.marks_ x10.pads_ x10.active_ (IntKind.wrap .i64 (x10.depth_ + 1)) (if (IntKind.wrap .i64 (x10.depth_ + 1)) > x10.most_ then (IntKind.wrap .i64 (x10.depth_ + 1)) else x10.most_) x10.err_)) := by rw [← h16]; exact hset_get V14 rfl
  let K38 : Sch := .take 9 (.take 10 (.take 11 (.last 12 .done)))
  refine w_regD (.take 0 (.take 1 (.take 2 (.take 3 (.take 5 (.take 6 (.take 7 (.alt 4 (.last 8 K38) (.last 8 (.last 4 K38)))))))))) (by kernel_rfl) (⟨[], [], H15⟩ : St) ?_ ?_
  refine ydt ⟨[E6, E14], [], H12⟩ ?_
  refine ydt ⟨[E6, E14, E15], [], H12⟩ ?_
  refine ydt ⟨[E6, E14, E15, E16], [], H12⟩ ?_
  refine ydt ⟨[E6, E14, E15, E16, E17], [], H12⟩ ?_
  refine ydt ⟨[E6, E14, E15, E16, E17, E18], [], H12⟩ ?_
  refine ydt ⟨[E6, E14, E15, E16, E17, E18, E19], [], H12⟩ ?_
  refine ydt S30 ?_
  refine q_in S31 ?_ ?_
  refine q_alt S32 (yd (X := X) S30 3 V14 6 1 false (.one .top (.int .i64 x10.most_)) (some 20)) ?_ ?_
  refine q_last S33 (yd (X := X) S32 3 V14 5 1 false (.one .top (.int .i64 (IntKind.wrap .i64 (x10.depth_ + 1)))) (some 24)) ?_
  refine yqt S34 ?_
  refine yqt S35 ?_
  refine yqt S36 ?_
  refine q_last S31 (st_st (X := X) (lc := []) (h2 := (hset H12 i7 o8 [((.own 1), .sl 1 (List.map (eI .u32) x10.words_)), ((.own 1), .sl 4 (List.map e_api_Fixup x10.fixups_)), ((.own 1), .sl 2 (List.map e_api_Segment x10.marks_.list_)), ((.own 1), .sl 1 (List.map (eI .i64) x10.pads_)), ((.own 1), .sl 1 (List.map (eI .i64) x10.active_)), (.top, .int .i64 (IntKind.wrap .i64 (x10.depth_ + 1))), (.top, .int .i64 (if (IntKind.wrap .i64 (x10.depth_ + 1)) > x10.most_ then (IntKind.wrap .i64 (x10.depth_ + 1)) else x10.most_)), (.top, .int .i64 x10.err_)])) S36 3 V14 6 1 (.one .top (.int .i64 (if (IntKind.wrap .i64 (x10.depth_ + 1)) > x10.most_ then (IntKind.wrap .i64 (x10.depth_ + 1)) else x10.most_))) (by kernel_rfl) (by kernel_rfl) (by kernel_rfl) (by kernel_rfl) (by kernel_rfl) (by kernel_rfl) (hset_sub0 V14 (Nat.le_of_ble_eq_true rfl)) (by kernel_rfl)) ?_
  exact yqe
  refine q_last S37 (yd (X := X) S30 3 V14 5 1 false (.one .top (.int .i64 (IntKind.wrap .i64 (x10.depth_ + 1)))) (some 24)) ?_
  refine q_last S33 (yd (X := X) S37 3 V14 6 1 false (.one .top (.int .i64 x10.most_)) (some 20)) ?_
  refine yqt S34 ?_
  refine yqt S35 ?_
  refine yqt S36 ?_
  refine q_last S31 (st_st (X := X) (lc := []) (h2 := (hset H12 i7 o8 [((.own 1), .sl 1 (List.map (eI .u32) x10.words_)), ((.own 1), .sl 4 (List.map e_api_Fixup x10.fixups_)), ((.own 1), .sl 2 (List.map e_api_Segment x10.marks_.list_)), ((.own 1), .sl 1 (List.map (eI .i64) x10.pads_)), ((.own 1), .sl 1 (List.map (eI .i64) x10.active_)), (.top, .int .i64 (IntKind.wrap .i64 (x10.depth_ + 1))), (.top, .int .i64 (if (IntKind.wrap .i64 (x10.depth_ + 1)) > x10.most_ then (IntKind.wrap .i64 (x10.depth_ + 1)) else x10.most_)), (.top, .int .i64 x10.err_)])) S36 3 V14 6 1 (.one .top (.int .i64 (if (IntKind.wrap .i64 (x10.depth_ + 1)) > x10.most_ then (IntKind.wrap .i64 (x10.depth_ + 1)) else x10.most_))) (by kernel_rfl) (by kernel_rfl) (by kernel_rfl) (by kernel_rfl) (by kernel_rfl) (by kernel_rfl) (hset_sub0 V14 (Nat.le_of_ble_eq_true rfl)) (by kernel_rfl)) ?_
  exact yqe
  refine eq_via (congrArg (fun q => (⟨[E6, E14, E15, E16, E17, E21, E18, E19, E20, E22, E23, E24, E25], [], q⟩ : St)) h16) ?_
  kernel_rfl
  obtain e0 := some1_inv hF
  subst e0
  exact yi (.tup [])
noncomputable def item_Gen_Wait_j1 (i1 : Nat) (o2 : Nat) (H8 : Heap) : Option (Heap) :=
  bind1 (get_item_Gen H8 i1 o2) fun x9 =>
  bind1 (emit_Code_Push H8 x9.Code_ 0) fun H12 =>
  some H12
noncomputable def item_Gen_Wait (H : Heap) (p0 : Ptr) : Option (Heap) :=
  (p0).bnd fun i1 o2 =>
  bind1 (get_item_Gen H i1 o2) fun x4 =>
  bind1 (emit_Code_Depth H x4.Code_) fun r6 =>
  if (decide (r6 ≥ 32)) = true then (bind1 (emit_Code_Fail H x4.Code_ 241) fun H15 =>
  item_Gen_Wait_j1 i1 o2 H15)
  else (item_Gen_Wait_j1 i1 o2 H)
theorem ok_item_Gen_Wait (H : Heap) {p0 : Ptr} {Hr : Heap} (hF : item_Gen_Wait H p0 = some Hr) : evS X 17 [.one .top (Ptr.av p0)] H = some (.tup [], Hr) := by
  refine yf Try.func17 false ⟨[(0, .one .top (Ptr.av p0))], [], H⟩ ?_
  unfold item_Gen_Wait at hF
  refine w_seq ?_
  refine w_seq ?_
  obtain ⟨i1, o2, h3, hF⟩ := pbnd_inv hF
  let E1 : EN := (0, .one .top (.obj i1 o2))
  let E3 : EN := (2, .one .top (.obj i1 o2))
  let E4 : EN := (3, .one .top (.obj i1 o2))
  let E5 : EN := (4, .one .top (.obj i1 o2))
  let E7 : EN := (13, .one .top (.obj i1 o2))
  let E8 : EN := (14, .one .top (.obj i1 o2))
  let E9 : EN := (15, .one .top (.obj i1 o2))
  let E10 : EN := (8, .one .top (.obj i1 o2))
  let E11 : EN := (9, .one .top (.obj i1 o2))
  let E12 : EN := (10, .one .top (.obj i1 o2))
  let S13 : St := ⟨[E1, E3, E4, E5], [], H⟩
  let S15 : St := ⟨[E1, E10, E11, E12], [], H⟩
  obtain ⟨x4, V5, hF⟩ := bind1_inv hF
  replace V5 := hgetT_inv V5
  obtain ⟨r6, c7, hF⟩ := bind1_inv hF
  let E2 : EN := (7, .one .top (.bool (decide (r6 ≥ 32))))
  let E6 : EN := (6, .one .top (.int .i64 r6))
  refine w_regO ⟨[E1, E2], [], H⟩ ?_ ?_
  refine yr 1 ⟨[(0, .one .top (Ptr.av p0)), (2, .one .top (Ptr.av p0))], [], H⟩ ?_ (h := (by generalize p0 = qp0; cases qp0 <;> kernel_rfl))
  refine o_eq (congrArg (fun q => (⟨[(0, .one .top (Ptr.av q)), (2, .one .top (Ptr.av q))], [], H⟩ : St)) h3) ?_
  refine yr 1 ⟨[E1, E3, E4], [], H⟩ ?_
  refine yr 1 S13 ?_ (h := (by generalize x4.Code_ = qp0; generalize x4.Proc_.frame_ = qp1; cases qp0 <;> cases qp1 <;> kernel_rfl))
  refine o_one ⟨[E1, E3, E4, E5, (5, .one .top (Ptr.av x4.Code_))], [], H⟩ (yd (X := X) S13 26 V5 0 1 false (.one .top (Ptr.av x4.Code_)) (some 5) (hs := (by generalize x4.Code_ = qp0; generalize x4.Proc_.frame_ = qp1; cases qp0 <;> cases qp1 <;> kernel_rfl))) ?_
  refine o_one ⟨[E1, E3, E4, E5, (5, .one .top (Ptr.av x4.Code_)), E6], [], H⟩ (st_call (d := (some 6)) (fz := false) (pure := true) (own := false) (⟨[E1, E3, E4, E5, (5, .one .top (Ptr.av x4.Code_))], [], H⟩ : St) (ok_emit_Code_Depth H c7) (by generalize x4.Code_ = qp0; generalize x4.Proc_.frame_ = qp1; cases qp0 <;> cases qp1 <;> kernel_rfl) (by generalize x4.Code_ = qp0; generalize x4.Proc_.frame_ = qp1; cases qp0 <;> cases qp1 <;> kernel_rfl)) ?_
  refine yr 1 ⟨[E1, E3, E4, E5, (5, .one .top (Ptr.av x4.Code_)), E6, E2], [], H⟩ ?_ (h := (by generalize x4.Code_ = qp0; generalize x4.Proc_.frame_ = qp1; cases qp0 <;> cases qp1 <;> kernel_rfl))
  exact ye
  refine w_join (α := (Heap)) (fun x => (⟨[E1], [], x⟩ : St)) (fun x => item_Gen_Wait_j1 i1 o2 x = some Hr) ?_ ?_
  rintro H8 hF
  replace hF : item_Gen_Wait_j1 i1 o2 H8 = some Hr := hF
  let S14 : St := ⟨[E1, E7, E8, E9], [], H8⟩
  unfold item_Gen_Wait_j1 at hF
  obtain ⟨x9, V10, hF⟩ := bind1_inv hF
  replace V10 := hgetT_inv V10
  obtain ⟨H12, c11, hF⟩ := bind1_inv hF
  refine w_regO ⟨[], [], H12⟩ ?_ ?_
  refine yr 2 ⟨[E1, E7, E8], [], H8⟩ ?_
  refine yr 1 S14 ?_ (h := (by generalize x9.Code_ = qp0; generalize x9.Proc_.frame_ = qp1; cases qp0 <;> cases qp1 <;> kernel_rfl))
  refine o_one ⟨[E1, E7, E8, E9, (16, .one .top (Ptr.av x9.Code_))], [], H8⟩ (yd (X := X) S14 26 V10 0 1 false (.one .top (Ptr.av x9.Code_)) (some 16) (hs := (by generalize x9.Code_ = qp0; generalize x9.Proc_.frame_ = qp1; cases qp0 <;> cases qp1 <;> kernel_rfl))) ?_
  refine o_one ⟨[E1, E7, E8, E9, (16, .one .top (Ptr.av x9.Code_)), (17, .tup [])], [], H12⟩ (st_call (d := (some 17)) (fz := false) (pure := false) (own := false) (⟨[E1, E7, E8, E9, (16, .one .top (Ptr.av x9.Code_))], [], H8⟩ : St) (ok_emit_Code_Push H8 c11) (by generalize x9.Code_ = qp0; generalize x9.Proc_.frame_ = qp1; cases qp0 <;> cases qp1 <;> kernel_rfl) (by generalize x9.Code_ = qp0; generalize x9.Proc_.frame_ = qp1; cases qp0 <;> cases qp1 <;> kernel_rfl)) ?_
  exact ye
  obtain e0 := some1_inv hF
  subst e0
  exact yi (.tup [])
  rcases if_inv hF with ⟨h13, hF⟩ | ⟨h13, hF⟩
  refine yT h13 ⟨[E1], [], H⟩ ?_
  obtain ⟨H15, c14, hF⟩ := bind1_inv hF
  refine w_regO ⟨[E1], [], H15⟩ ?_ ?_
  refine yr 3 S15 ?_ (h := (by generalize x4.Code_ = qp0; generalize x4.Proc_.frame_ = qp1; cases qp0 <;> cases qp1 <;> kernel_rfl))
  refine o_one ⟨[E1, E10, E11, E12, (11, .one .top (Ptr.av x4.Code_))], [], H⟩ (yd (X := X) S15 26 V5 0 1 false (.one .top (Ptr.av x4.Code_)) (some 11) (hs := (by generalize x4.Code_ = qp0; generalize x4.Proc_.frame_ = qp1; cases qp0 <;> cases qp1 <;> kernel_rfl))) ?_
  refine o_one ⟨[E1, E10, E11, E12, (11, .one .top (Ptr.av x4.Code_)), (12, .tup [])], [], H15⟩ (st_call (d := (some 12)) (fz := false) (pure := false) (own := false) (⟨[E1, E10, E11, E12, (11, .one .top (Ptr.av x4.Code_))], [], H⟩ : St) (ok_emit_Code_Fail H c14) (by generalize x4.Code_ = qp0; generalize x4.Proc_.frame_ = qp1; cases qp0 <;> cases qp1 <;> kernel_rfl) (by generalize x4.Code_ = qp0; generalize x4.Proc_.frame_ = qp1; cases qp0 <;> cases qp1 <;> kernel_rfl)) ?_
  exact ye
  exact ⟨H15, hF, (by kernel_rfl)⟩
  refine yF h13 ⟨[E1], [], H⟩ ?_
  refine w_skip ?_
  exact ⟨H, hF, (by kernel_rfl)⟩
noncomputable def emit_Code_Drop (H : Heap) (p0 : Ptr) (p1 : Int) : Option (Heap) :=
  (p0).bnd fun i1 o2 =>
  bind1 (get_emit_Code H i1 o2) fun x4 =>
  bnd (set_emit_Code H i1 o2 (T_emit_Code.mk x4.words_ x4.fixups_ x4.marks_ x4.pads_ x4.active_ (if (IntKind.wrap .i64 (x4.depth_ - p1)) > 0 then (IntKind.wrap .i64 (x4.depth_ - p1)) else 0) x4.most_ x4.err_)) fun H6 =>
  some H6
theorem ok_emit_Code_Drop (H : Heap) {p0 : Ptr} {p1 : Int} {Hr : Heap} (hF : emit_Code_Drop H p0 p1 = some Hr) : evS X 76 [.one .top (Ptr.av p0), .one .top (.int .i64 p1)] H = some (.tup [], Hr) := by
  let E1 : EN := (1, .one .top (.int .i64 p1))
  let E8 : EN := (9, .one .top (.int .i64 p1))
  refine yf Try.func76 false ⟨[(0, .one .top (Ptr.av p0)), E1], [], H⟩ ?_
  unfold emit_Code_Drop at hF
  obtain ⟨i1, o2, h3, hF⟩ := pbnd_inv hF
  let E2 : EN := (0, .one .top (.obj i1 o2))
  let E3 : EN := (4, .one .top (.obj i1 o2))
  let E4 : EN := (5, .one .top (.obj i1 o2))
  let E5 : EN := (6, .one .top (.obj i1 o2))
  let E6 : EN := (7, .one .top (.obj i1 (o2 + 5)))
  let E11 : EN := (12, .one .top (.obj i1 o2))
  let E12 : EN := (13, .one .top (.obj i1 (o2 + 5)))
  let S13 : St := ⟨[E2, E1, E3, E4, E5, E6], [], H⟩
  obtain ⟨x4, V5, hF⟩ := bind1_inv hF
  replace V5 := hgetT_inv V5
  let E7 : EN := (8, .one .top (.int .i64 x4.depth_))
  let E9 : EN := (10, .one .top (.int .i64 (IntKind.wrap .i64 (x4.depth_ - p1))))
  let E10 : EN := (11, .one .top (.int .i64 (if (IntKind.wrap .i64 (x4.depth_ - p1)) > 0 then (IntKind.wrap .i64 (x4.depth_ - p1)) else 0)))
  let S14 : St := ⟨[E2, E1, E3, E4, E5, E6, E7, E8, E9, E10, E11, E12], [], H⟩
  obtain ⟨H6, h7, hF⟩ := bnd_inv hF
  have V8 : hget H6 i1 o2 8 = some (o_emit_Code (T_emit_Code.mk x4.words_ x4.fixups_ x4.marks_ x4.pads_ x4.active_ (if (IntKind.wrap .i64 (x4.depth_ - p1)) > 0 then (IntKind.wrap .i64 (x4.depth_ - p1)) else 0) x4.most_ x4.err_)) := by rw [← h7]; exact hset_get V5 rfl
  refine w_regO ⟨[], [], H6⟩ ?_ ?_
  refine yr 2 ⟨[(0, .one .top (Ptr.av p0)), E1, (4, .one .top (Ptr.av p0)), (5, .one .top (Ptr.av p0))], [], H⟩ ?_ (h := (by generalize p0 = qp0; cases qp0 <;> kernel_rfl))
  refine o_eq (congrArg (fun q => (⟨[(0, .one .top (Ptr.av q)), E1, (4, .one .top (Ptr.av q)), (5, .one .top (Ptr.av q))], [], H⟩ : St)) h3) ?_
  refine yr 1 ⟨[E2, E1, E3, E4, E5], [], H⟩ ?_
  refine yr 1 S13 ?_
  refine o_one ⟨[E2, E1, E3, E4, E5, E6, E7], [], H⟩ (yd (X := X) S13 3 V5 5 1 false (.one .top (.int .i64 x4.depth_)) (some 8)) ?_
  refine yr 5 S14 ?_
  refine o_one ⟨[E2, E1, E3, E4, E5, E6, E7, E8, E9, E10, E11, E12], [], (hset H i1 o2 [((.own 1), .sl 1 (List.map (eI .u32) x4.words_)), ((.own 1), .sl 4 (List.map e_api_Fixup x4.fixups_)), ((.own 1), .sl 2 (List.map e_api_Segment x4.marks_.list_)), ((.own 1), .sl 1 (List.map (eI .i64) x4.pads_)), ((.own 1), .sl 1 (List.map (eI .i64) x4.active_)), (.top, .int .i64 (if (IntKind.wrap .i64 (x4.depth_ - p1)) > 0 then (IntKind.wrap .i64 (x4.depth_ - p1)) else 0)), (.top, .int .i64 x4.most_), (.top, .int .i64 x4.err_)])⟩ (st_st (X := X) (lc := []) (h2 := (hset H i1 o2 [((.own 1), .sl 1 (List.map (eI .u32) x4.words_)), ((.own 1), .sl 4 (List.map e_api_Fixup x4.fixups_)), ((.own 1), .sl 2 (List.map e_api_Segment x4.marks_.list_)), ((.own 1), .sl 1 (List.map (eI .i64) x4.pads_)), ((.own 1), .sl 1 (List.map (eI .i64) x4.active_)), (.top, .int .i64 (if (IntKind.wrap .i64 (x4.depth_ - p1)) > 0 then (IntKind.wrap .i64 (x4.depth_ - p1)) else 0)), (.top, .int .i64 x4.most_), (.top, .int .i64 x4.err_)])) S14 3 V5 5 1 (.one .top (.int .i64 (if (IntKind.wrap .i64 (x4.depth_ - p1)) > 0 then (IntKind.wrap .i64 (x4.depth_ - p1)) else 0))) (by kernel_rfl) (by kernel_rfl) (by kernel_rfl) (by kernel_rfl) (by kernel_rfl) (by kernel_rfl) (hset_sub0 V5 (Nat.le_of_ble_eq_true rfl)) (by kernel_rfl)) ?_
  refine o_eq (congrArg (fun q => (⟨[E2, E1, E3, E4, E5, E6, E7, E8, E9, E10, E11, E12], [], q⟩ : St)) h7) ?_
  exact ye
  obtain e0 := some1_inv hF
  subst e0
  exact yi (.tup [])
noncomputable def emit_Code_Pop (H : Heap) (p0 : Ptr) (p1 : Int) : Option (Heap) :=
  bind2 (emit_Code_Sign H p0 18 p1 15 0) fun H3 r1 =>
  bind2 (emit_Code_Sign H3 p0 5 15 15 4) fun H6 r4 =>
  bind1 (emit_Code_Drop H6 p0 1) fun H8 =>
  some H8
theorem ok_emit_Code_Pop (H : Heap) {p0 : Ptr} {p1 : Int} {Hr : Heap} (hF : emit_Code_Pop H p0 p1 = some Hr) : evS X 25 [.one .top (Ptr.av p0), .one .top (.int .i64 p1)] H = some (.tup [], Hr) := by
  let E1 : Ptr → EN := fun z0 => (0, .one .top (Ptr.av z0))
  let E2 : EN := (1, .one .top (.int .i64 p1))
  let E3 : Ptr → EN := fun z0 => (4, .one .top (Ptr.av z0))
  let E4 : EN := (5, .one .top (.int .i64 p1))
  let E5 : Ptr → EN := fun z0 => (7, .one .top (Ptr.av z0))
  let E6 : Ptr → EN := fun z0 => (9, .one .top (Ptr.av z0))
  let S7 : Ptr → St := fun z0 => ⟨[(E1 z0), E2, (E3 z0), E4], [], H⟩
  refine yf Try.func25 false ⟨[(E1 p0), E2], [], H⟩ ?_
  unfold emit_Code_Pop at hF
  refine w_seq ?_
  obtain ⟨H3, r1, c2, hF⟩ := bind2_inv hF
  let S8 : Ptr → St := fun z0 => ⟨[(E1 z0), (E5 z0)], [], H3⟩
  refine w_regO ⟨[(E1 p0)], [], H3⟩ ?_ ?_
  refine yr 2 (S7 p0) ?_ (h := (by generalize p0 = qp0; cases qp0 <;> kernel_rfl))
  refine o_one ⟨[(E1 p0), E2, (E3 p0), E4, (6, .one .top (.int .i64 r1))], [], H3⟩ (st_call (d := (some 6)) (fz := false) (pure := false) (own := false) (S7 p0) (ok_emit_Code_Sign H c2) (by generalize p0 = qp0; cases qp0 <;> kernel_rfl) (by generalize p0 = qp0; cases qp0 <;> kernel_rfl)) ?_
  exact ye
  refine w_seq ?_
  obtain ⟨H6, r4, c5, hF⟩ := bind2_inv hF
  let S9 : Ptr → St := fun z0 => ⟨[(E1 z0), (E6 z0)], [], H6⟩
  refine w_regO ⟨[(E1 p0)], [], H6⟩ ?_ ?_
  refine yr 1 (S8 p0) ?_ (h := (by generalize p0 = qp0; cases qp0 <;> kernel_rfl))
  refine o_one ⟨[(E1 p0), (E5 p0), (8, .one .top (.int .i64 r4))], [], H6⟩ (st_call (d := (some 8)) (fz := false) (pure := false) (own := false) (S8 p0) (ok_emit_Code_Sign H3 c5) (by generalize p0 = qp0; cases qp0 <;> kernel_rfl) (by generalize p0 = qp0; cases qp0 <;> kernel_rfl)) ?_
  exact ye
  obtain ⟨H8, c7, hF⟩ := bind1_inv hF
  refine w_regO ⟨[], [], H8⟩ ?_ ?_
  refine yr 1 (S9 p0) ?_ (h := (by generalize p0 = qp0; cases qp0 <;> kernel_rfl))
  refine o_one ⟨[(E1 p0), (E6 p0), (10, .tup [])], [], H8⟩ (st_call (d := (some 10)) (fz := false) (pure := false) (own := false) (S9 p0) (ok_emit_Code_Drop H6 c7) (by generalize p0 = qp0; cases qp0 <;> kernel_rfl) (by generalize p0 = qp0; cases qp0 <;> kernel_rfl)) ?_
  exact ye
  obtain e0 := some1_inv hF
  subst e0
  exact yi (.tup [])
noncomputable def emit_Code_Three (H : Heap) (p0 : Ptr) (p1 : Int) (p2 : Int) (p3 : Int) (p4 : Int) : Option (Heap × Int) :=
  bind2 (emit_Code_Put H p0 (T_instr_Instr.mk p1 p2 p3 p4 0)) fun H3 r1 =>
  some (H3, r1)
theorem ok_emit_Code_Three (H : Heap) {p0 : Ptr} {p1 : Int} {p2 : Int} {p3 : Int} {p4 : Int} {ra : Int} {Hr : Heap} (hF : emit_Code_Three H p0 p1 p2 p3 p4 = some (Hr, ra)) : evS X 45 [.one .top (Ptr.av p0), .one .top (.int .i64 p1), .one .top (.int .i64 p2), .one .top (.int .i64 p3), .one .top (.int .i64 p4)] H = some (.one .top (.int .i64 ra), Hr) := by
  let E1 : Ptr → EN := fun z0 => (0, .one .top (Ptr.av z0))
  let E2 : EN := (1, .one .top (.int .i64 p1))
  let E3 : EN := (2, .one .top (.int .i64 p2))
  let E4 : EN := (3, .one .top (.int .i64 p3))
  let E5 : EN := (4, .one .top (.int .i64 p4))
  let E7 : Ptr → EN := fun z0 => (11, .one .top (Ptr.av z0))
  let E8 : EN := (12, .one .top (.int .i64 p1))
  let E9 : EN := (13, .one .top (.int .i64 p2))
  let E10 : EN := (14, .one .top (.int .i64 p3))
  let E11 : EN := (15, .one .top (.int .i64 p4))
  let E12 : EN := (16, .agg [(.top, .int .i64 p1), (.top, .int .i64 p2), (.top, .int .i64 p3), (.top, .int .i64 p4), (.top, .int .i64 0)])
  let S14 : Ptr → St := fun z0 => ⟨[(E1 z0), E2, E3, E4, E5], [], H⟩
  let S15 : Ptr → St := fun z0 => ⟨[(E1 z0), E2, E3, E4, E5, (E7 z0), E8, E9, E10, E11, E12], [], H⟩
  refine yf Try.func45 false (S14 p0) ?_
  unfold emit_Code_Three at hF
  refine ysg (S14 p0) ?_ (h := (by generalize p0 = qp0; cases qp0 <;> kernel_rfl))
  refine w_seq ?_
  obtain ⟨H3, r1, c2, hF⟩ := bind2_inv hF
  let E6 : EN := (10, .one .top (.int .i64 r1))
  let E13 : EN := (17, .one .top (.int .i64 r1))
  refine w_regO ⟨[E6], [], H3⟩ ?_ ?_
  refine yr 6 (S15 p0) ?_ (h := (by generalize p0 = qp0; cases qp0 <;> kernel_rfl))
  refine o_one ⟨[(E1 p0), E2, E3, E4, E5, (E7 p0), E8, E9, E10, E11, E12, E13], [], H3⟩ (st_call (d := (some 17)) (fz := false) (pure := false) (own := false) (S15 p0) (ok_emit_Code_Put H c2) (by generalize p0 = qp0; cases qp0 <;> kernel_rfl) (by generalize p0 = qp0; cases qp0 <;> kernel_rfl)) ?_
  refine yr 1 ⟨[(E1 p0), E2, E3, E4, E5, E6, (E7 p0), E8, E9, E10, E11, E12, E13], [], H3⟩ ?_ (h := (by generalize p0 = qp0; cases qp0 <;> kernel_rfl))
  exact ye
  refine w_ret ?_
  obtain ⟨e0, e1⟩ := some2_inv hF
  subst e0
  subst e1
  exact yi (.one .top (.int .i64 r1))
noncomputable def item_Gen_Two_j2 (H10 : Heap) : Option (Heap × Int) :=
  some (H10, 0)
noncomputable def item_Gen_Two_j1 (p0 : Ptr) (H : Heap) (j1 : Bool) (j2 : Int) : Option (Heap × Int) :=
  (p0).bnd fun i3 o4 =>
  bind1 (get_item_Gen H i3 o4) fun x6 =>
  bind1 (emit_Code_Pop H x6.Code_ 1) fun H9 =>
  if j1 = true then (bind1 (get_item_Gen H9 i3 o4) fun x12 =>
  bind2 (emit_Code_Three H9 x12.Code_ j2 0 0 1) fun H16 r14 =>
  item_Gen_Two_j2 H16)
  else (bind1 (get_item_Gen H9 i3 o4) fun x17 =>
  bind2 (emit_Code_Three H9 x17.Code_ j2 0 1 0) fun H21 r19 =>
  item_Gen_Two_j2 H21)
noncomputable def item_Gen_Two_j3 (p0 : Ptr) (H : Heap) (j23 : Bool) (j24 : Int) : Option (Heap × Int) :=
  item_Gen_Two_j1 p0 H j23 j24
noncomputable def item_Gen_Two_j4 (p0 : Ptr) (H : Heap) (j26 : Bool) (j27 : Int) : Option (Heap × Int) :=
  item_Gen_Two_j3 p0 H j26 j27
noncomputable def item_Gen_Two_j5 (p0 : Ptr) (H : Heap) (j29 : Bool) (j30 : Int) : Option (Heap × Int) :=
  item_Gen_Two_j4 p0 H j29 j30
noncomputable def item_Gen_Two_j6 (p0 : Ptr) (H : Heap) (j32 : Bool) (j33 : Int) : Option (Heap × Int) :=
  item_Gen_Two_j5 p0 H j32 j33
noncomputable def item_Gen_Two_j7 (p0 : Ptr) (H : Heap) (j35 : Bool) (j36 : Int) : Option (Heap × Int) :=
  item_Gen_Two_j6 p0 H j35 j36
noncomputable def item_Gen_Two_j8 (p0 : Ptr) (H : Heap) (j38 : Bool) (j39 : Int) : Option (Heap × Int) :=
  item_Gen_Two_j7 p0 H j38 j39
noncomputable def item_Gen_Two_j9 (p0 : Ptr) (H : Heap) (j41 : Bool) (j42 : Int) : Option (Heap × Int) :=
  item_Gen_Two_j8 p0 H j41 j42
noncomputable def item_Gen_Two_j10 (p0 : Ptr) (H : Heap) (j44 : Bool) (j45 : Int) : Option (Heap × Int) :=
  item_Gen_Two_j9 p0 H j44 j45
noncomputable def item_Gen_Two_j11 (p0 : Ptr) (H : Heap) (j47 : Int) : Option (Heap × Int) :=
  item_Gen_Two_j10 p0 H true j47
noncomputable def item_Gen_Two (H : Heap) (p0 : Ptr) (p1 : ByteArray) : Option (Heap × Int) :=
  if (strEq p1 (ByteArray.mk #[43])) = true then (item_Gen_Two_j1 p0 H false 6)
  else (if (strEq p1 (ByteArray.mk #[45])) = true then (item_Gen_Two_j3 p0 H false 7)
  else (if (strEq p1 (ByteArray.mk #[42])) = true then (item_Gen_Two_j4 p0 H false 8)
  else (if (strEq p1 (ByteArray.mk #[68, 73, 86])) = true then (item_Gen_Two_j5 p0 H false 9)
  else (if (strEq p1 (ByteArray.mk #[77, 79, 68])) = true then (item_Gen_Two_j6 p0 H false 10)
  else (if (strEq p1 (ByteArray.mk #[61])) = true then (item_Gen_Two_j7 p0 H false 16)
  else (if (strEq p1 (ByteArray.mk #[35])) = true then (item_Gen_Two_j8 p0 H false 17)
  else (if (strEq p1 (ByteArray.mk #[60])) = true then (item_Gen_Two_j9 p0 H false 14)
  else (if (strEq p1 (ByteArray.mk #[60, 61])) = true then (item_Gen_Two_j10 p0 H false 15)
  else (if (strEq p1 (ByteArray.mk #[62])) = true then (item_Gen_Two_j11 p0 H 14)
  else (if (strEq p1 (ByteArray.mk #[62, 61])) = true then (item_Gen_Two_j11 p0 H 15)
  else (some (H, 110))))))))))))
theorem ok_item_Gen_Two (H : Heap) {p0 : Ptr} {p1 : ByteArray} {ra : Int} {Hr : Heap} (hF : item_Gen_Two H p0 p1 = some (Hr, ra)) : evS X 18 [.one .top (Ptr.av p0), .one .top (.str p1)] H = some (.one .top (.int .i64 ra), Hr) := by
  let E1 : Ptr → EN := fun z0 => (0, .one .top (Ptr.av z0))
  let E2 : EN := (1, .one .top (.str p1))
  let E3 : EN := (6, .one .top (.bool false))
  let E4 : EN := (7, .one .top (.str p1))
  let E19 : EN := (5, .one .top (.int .i64 14))
  let E20 : EN := (5, .one .top (.int .i64 15))
  let E21 : EN := (6, .one .top (.bool true))
  let S22 : Ptr → St := fun z0 => ⟨[(E1 z0), E2], [], H⟩
  let S23 : Ptr → St := fun z0 => ⟨[(E1 z0), E3, E4], [], H⟩
  let S27 : Ptr → St := fun z0 => ⟨[(E1 z0), E3], [], H⟩
  let S28 : Ptr → St := fun z0 => ⟨[(E1 z0), E4], [], H⟩
  refine yf Try.func18 false (S22 p0) ?_
  unfold item_Gen_Two at hF
  refine ysg (S22 p0) ?_ (h := (by generalize p0 = qp0; cases qp0 <;> kernel_rfl))
  refine ysg ⟨[(E1 p0), E2, E3], [], H⟩ ?_ (h := (by generalize p0 = qp0; cases qp0 <;> kernel_rfl))
  refine w_seq ?_
  refine ysg (S23 p0) ?_ (h := (by generalize p0 = qp0; cases qp0 <;> kernel_rfl))
  refine w_block ?_
  refine ysg ⟨[(E1 p0), E3, E4, (8, .one .top (.bool (strEq p1 (ByteArray.mk #[43]))))], [], H⟩ ?_ (h := (by generalize p0 = qp0; cases qp0 <;> kernel_rfl))
  refine w_join (α := (Bool × Int)) (fun x => (⟨[(E1 p0), (5, .one .top (.int .i64 x.2)), (6, .one .top (.bool x.1))], [], H⟩ : St)) (fun x => item_Gen_Two_j1 p0 H x.1 x.2 = some (Hr, ra)) ?_ ?_
  rintro ⟨j1, j2⟩ hF
  replace hF : item_Gen_Two_j1 p0 H j1 j2 = some (Hr, ra) := hF
  let E6 : EN := (5, .one .top (.int .i64 j2))
  let E7 : EN := (6, .one .top (.bool j1))
  let E14 : EN := (40, .one .top (.int .i64 j2))
  let E18 : EN := (46, .one .top (.int .i64 j2))
  unfold item_Gen_Two_j1 at hF
  refine w_seq ?_
  obtain ⟨i3, o4, h5, hF⟩ := pbnd_inv hF
  let E5 : EN := (0, .one .top (.obj i3 o4))
  let E8 : EN := (30, .one .top (.obj i3 o4))
  let E9 : EN := (31, .one .top (.obj i3 o4))
  let E10 : EN := (32, .one .top (.obj i3 o4))
  let E11 : EN := (36, .one .top (.obj i3 o4))
  let E12 : EN := (37, .one .top (.obj i3 o4))
  let E13 : EN := (38, .one .top (.obj i3 o4))
  let E15 : EN := (42, .one .top (.obj i3 o4))
  let E16 : EN := (43, .one .top (.obj i3 o4))
  let E17 : EN := (44, .one .top (.obj i3 o4))
  let S24 : St := ⟨[E5, E6, E7, E8, E9, E10], [], H⟩
  obtain ⟨x6, V7, hF⟩ := bind1_inv hF
  replace V7 := hgetT_inv V7
  obtain ⟨H9, c8, hF⟩ := bind1_inv hF
  let S25 : St := ⟨[E5, E6, E11, E12, E13], [], H9⟩
  let S26 : St := ⟨[E5, E6, E15, E16, E17], [], H9⟩
  refine w_regO ⟨[E5, E6, E7], [], H9⟩ ?_ ?_
  refine yr 1 ⟨[(E1 p0), E6, E7, (30, .one .top (Ptr.av p0))], [], H⟩ ?_ (h := (by generalize p0 = qp0; cases qp0 <;> kernel_rfl))
  refine o_eq (congrArg (fun q => (⟨[(0, .one .top (Ptr.av q)), E6, E7, (30, .one .top (Ptr.av q))], [], H⟩ : St)) h5) ?_
  refine yr 1 ⟨[E5, E6, E7, E8, E9], [], H⟩ ?_
  refine yr 1 S24 ?_ (h := (by generalize x6.Code_ = qp0; generalize x6.Proc_.frame_ = qp1; cases qp0 <;> cases qp1 <;> kernel_rfl))
  refine o_one ⟨[E5, E6, E7, E8, E9, E10, (33, .one .top (Ptr.av x6.Code_))], [], H⟩ (yd (X := X) S24 26 V7 0 1 false (.one .top (Ptr.av x6.Code_)) (some 33) (hs := (by generalize x6.Code_ = qp0; generalize x6.Proc_.frame_ = qp1; cases qp0 <;> cases qp1 <;> kernel_rfl))) ?_
  refine o_one ⟨[E5, E6, E7, E8, E9, E10, (33, .one .top (Ptr.av x6.Code_)), (34, .tup [])], [], H9⟩ (st_call (d := (some 34)) (fz := false) (pure := false) (own := false) (⟨[E5, E6, E7, E8, E9, E10, (33, .one .top (Ptr.av x6.Code_))], [], H⟩ : St) (ok_emit_Code_Pop H c8) (by generalize x6.Code_ = qp0; generalize x6.Proc_.frame_ = qp1; cases qp0 <;> cases qp1 <;> kernel_rfl) (by generalize x6.Code_ = qp0; generalize x6.Proc_.frame_ = qp1; cases qp0 <;> cases qp1 <;> kernel_rfl)) ?_
  exact ye
  refine w_seq ?_
  refine ysg ⟨[E5, E6, (35, .one .top (.bool j1))], [], H9⟩ ?_
  refine w_join (α := (Heap)) (fun x => (⟨[], [], x⟩ : St)) (fun x => item_Gen_Two_j2 x = some (Hr, ra)) ?_ ?_
  rintro H10 hF
  replace hF : item_Gen_Two_j2 H10 = some (Hr, ra) := hF
  unfold item_Gen_Two_j2 at hF
  refine ysg ⟨[(4, .one .top (.int .i64 0))], [], H10⟩ ?_
  refine w_ret ?_
  obtain ⟨e0, e1⟩ := some2_inv hF
  subst e0
  subst e1
  exact yi (.one .top (.int .i64 0))
  rcases if_inv hF with ⟨h11, hF⟩ | ⟨h11, hF⟩
  refine yT h11 ⟨[E5, E6], [], H9⟩ ?_
  obtain ⟨x12, V13, hF⟩ := bind1_inv hF
  replace V13 := hgetT_inv V13
  obtain ⟨H16, r14, c15, hF⟩ := bind2_inv hF
  refine w_regO ⟨[], [], H16⟩ ?_ ?_
  refine yr 2 ⟨[E5, E6, E11, E12], [], H9⟩ ?_
  refine yr 1 S25 ?_ (h := (by generalize x12.Code_ = qp0; generalize x12.Proc_.frame_ = qp1; cases qp0 <;> cases qp1 <;> kernel_rfl))
  refine o_one ⟨[E5, E6, E11, E12, E13, (39, .one .top (Ptr.av x12.Code_))], [], H9⟩ (yd (X := X) S25 26 V13 0 1 false (.one .top (Ptr.av x12.Code_)) (some 39) (hs := (by generalize x12.Code_ = qp0; generalize x12.Proc_.frame_ = qp1; cases qp0 <;> cases qp1 <;> kernel_rfl))) ?_
  refine yr 1 ⟨[E5, E6, E11, E12, E13, (39, .one .top (Ptr.av x12.Code_)), E14], [], H9⟩ ?_ (h := (by generalize x12.Code_ = qp0; generalize x12.Proc_.frame_ = qp1; cases qp0 <;> cases qp1 <;> kernel_rfl))
  refine o_one ⟨[E5, E6, E11, E12, E13, (39, .one .top (Ptr.av x12.Code_)), E14, (41, .one .top (.int .i64 r14))], [], H16⟩ (st_call (d := (some 41)) (fz := false) (pure := false) (own := false) (⟨[E5, E6, E11, E12, E13, (39, .one .top (Ptr.av x12.Code_)), E14], [], H9⟩ : St) (ok_emit_Code_Three H9 c15) (by generalize x12.Code_ = qp0; generalize x12.Proc_.frame_ = qp1; cases qp0 <;> cases qp1 <;> kernel_rfl) (by generalize x12.Code_ = qp0; generalize x12.Proc_.frame_ = qp1; cases qp0 <;> cases qp1 <;> kernel_rfl)) ?_
  exact ye
  exact ⟨H16, hF, (by kernel_rfl)⟩
  refine yF h11 ⟨[E5, E6], [], H9⟩ ?_
  obtain ⟨x17, V18, hF⟩ := bind1_inv hF
  replace V18 := hgetT_inv V18
  obtain ⟨H21, r19, c20, hF⟩ := bind2_inv hF
  refine w_regO ⟨[], [], H21⟩ ?_ ?_
  refine yr 2 ⟨[E5, E6, E15, E16], [], H9⟩ ?_
  refine yr 1 S26 ?_ (h := (by generalize x17.Code_ = qp0; generalize x17.Proc_.frame_ = qp1; cases qp0 <;> cases qp1 <;> kernel_rfl))
  refine o_one ⟨[E5, E6, E15, E16, E17, (45, .one .top (Ptr.av x17.Code_))], [], H9⟩ (yd (X := X) S26 26 V18 0 1 false (.one .top (Ptr.av x17.Code_)) (some 45) (hs := (by generalize x17.Code_ = qp0; generalize x17.Proc_.frame_ = qp1; cases qp0 <;> cases qp1 <;> kernel_rfl))) ?_
  refine yr 1 ⟨[E5, E6, E15, E16, E17, (45, .one .top (Ptr.av x17.Code_)), E18], [], H9⟩ ?_ (h := (by generalize x17.Code_ = qp0; generalize x17.Proc_.frame_ = qp1; cases qp0 <;> cases qp1 <;> kernel_rfl))
  refine o_one ⟨[E5, E6, E15, E16, E17, (45, .one .top (Ptr.av x17.Code_)), E18, (47, .one .top (.int .i64 r19))], [], H21⟩ (st_call (d := (some 47)) (fz := false) (pure := false) (own := false) (⟨[E5, E6, E15, E16, E17, (45, .one .top (Ptr.av x17.Code_)), E18], [], H9⟩ : St) (ok_emit_Code_Three H9 c20) (by generalize x17.Code_ = qp0; generalize x17.Proc_.frame_ = qp1; cases qp0 <;> cases qp1 <;> kernel_rfl) (by generalize x17.Code_ = qp0; generalize x17.Proc_.frame_ = qp1; cases qp0 <;> cases qp1 <;> kernel_rfl)) ?_
  exact ye
  exact ⟨H21, hF, (by kernel_rfl)⟩
  rcases if_inv hF with ⟨h22, hF⟩ | ⟨h22, hF⟩
  refine yT h22 (S27 p0) ?_
  refine w_reg ⟨[(E1 p0), (5, .one .top (.int .i64 6)), E3], [], H⟩ (by generalize p0 = qp0; cases qp0 <;> kernel_rfl) ?_
  exact ⟨(false, 6), hF, (by kernel_rfl)⟩
  refine yF h22 (S23 p0) ?_
  refine ysg ⟨[(E1 p0), E3, E4, (10, .one .top (.bool (strEq p1 (ByteArray.mk #[45]))))], [], H⟩ ?_ (h := (by generalize p0 = qp0; cases qp0 <;> kernel_rfl))
  refine w_join (α := (Bool × Int)) (fun x => (⟨[(E1 p0), (5, .one .top (.int .i64 x.2)), (6, .one .top (.bool x.1))], [], H⟩ : St)) (fun x => item_Gen_Two_j3 p0 H x.1 x.2 = some (Hr, ra)) ?_ ?_
  rintro ⟨j23, j24⟩ hF
  replace hF : item_Gen_Two_j3 p0 H j23 j24 = some (Hr, ra) := hF
  unfold item_Gen_Two_j3 at hF
  exact ⟨(j23, j24), hF, (by kernel_rfl)⟩
  rcases if_inv hF with ⟨h25, hF⟩ | ⟨h25, hF⟩
  refine yT h25 (S27 p0) ?_
  refine w_reg ⟨[(E1 p0), (5, .one .top (.int .i64 7)), E3], [], H⟩ (by generalize p0 = qp0; cases qp0 <;> kernel_rfl) ?_
  exact ⟨(false, 7), hF, (by kernel_rfl)⟩
  refine yF h25 (S23 p0) ?_
  refine ysg ⟨[(E1 p0), E3, E4, (12, .one .top (.bool (strEq p1 (ByteArray.mk #[42]))))], [], H⟩ ?_ (h := (by generalize p0 = qp0; cases qp0 <;> kernel_rfl))
  refine w_join (α := (Bool × Int)) (fun x => (⟨[(E1 p0), (5, .one .top (.int .i64 x.2)), (6, .one .top (.bool x.1))], [], H⟩ : St)) (fun x => item_Gen_Two_j4 p0 H x.1 x.2 = some (Hr, ra)) ?_ ?_
  rintro ⟨j26, j27⟩ hF
  replace hF : item_Gen_Two_j4 p0 H j26 j27 = some (Hr, ra) := hF
  unfold item_Gen_Two_j4 at hF
  exact ⟨(j26, j27), hF, (by kernel_rfl)⟩
  rcases if_inv hF with ⟨h28, hF⟩ | ⟨h28, hF⟩
  refine yT h28 (S27 p0) ?_
  refine w_reg ⟨[(E1 p0), (5, .one .top (.int .i64 8)), E3], [], H⟩ (by generalize p0 = qp0; cases qp0 <;> kernel_rfl) ?_
  exact ⟨(false, 8), hF, (by kernel_rfl)⟩
  refine yF h28 (S23 p0) ?_
  refine ysg ⟨[(E1 p0), E3, E4, (14, .one .top (.bool (strEq p1 (ByteArray.mk #[68, 73, 86]))))], [], H⟩ ?_ (h := (by generalize p0 = qp0; cases qp0 <;> kernel_rfl))
  refine w_join (α := (Bool × Int)) (fun x => (⟨[(E1 p0), (5, .one .top (.int .i64 x.2)), (6, .one .top (.bool x.1))], [], H⟩ : St)) (fun x => item_Gen_Two_j5 p0 H x.1 x.2 = some (Hr, ra)) ?_ ?_
  rintro ⟨j29, j30⟩ hF
  replace hF : item_Gen_Two_j5 p0 H j29 j30 = some (Hr, ra) := hF
  unfold item_Gen_Two_j5 at hF
  exact ⟨(j29, j30), hF, (by kernel_rfl)⟩
  rcases if_inv hF with ⟨h31, hF⟩ | ⟨h31, hF⟩
  refine yT h31 (S27 p0) ?_
  refine w_reg ⟨[(E1 p0), (5, .one .top (.int .i64 9)), E3], [], H⟩ (by generalize p0 = qp0; cases qp0 <;> kernel_rfl) ?_
  exact ⟨(false, 9), hF, (by kernel_rfl)⟩
  refine yF h31 (S23 p0) ?_
  refine ysg ⟨[(E1 p0), E3, E4, (16, .one .top (.bool (strEq p1 (ByteArray.mk #[77, 79, 68]))))], [], H⟩ ?_ (h := (by generalize p0 = qp0; cases qp0 <;> kernel_rfl))
  refine w_join (α := (Bool × Int)) (fun x => (⟨[(E1 p0), (5, .one .top (.int .i64 x.2)), (6, .one .top (.bool x.1))], [], H⟩ : St)) (fun x => item_Gen_Two_j6 p0 H x.1 x.2 = some (Hr, ra)) ?_ ?_
  rintro ⟨j32, j33⟩ hF
  replace hF : item_Gen_Two_j6 p0 H j32 j33 = some (Hr, ra) := hF
  unfold item_Gen_Two_j6 at hF
  exact ⟨(j32, j33), hF, (by kernel_rfl)⟩
  rcases if_inv hF with ⟨h34, hF⟩ | ⟨h34, hF⟩
  refine yT h34 (S27 p0) ?_
  refine w_reg ⟨[(E1 p0), (5, .one .top (.int .i64 10)), E3], [], H⟩ (by generalize p0 = qp0; cases qp0 <;> kernel_rfl) ?_
  exact ⟨(false, 10), hF, (by kernel_rfl)⟩
  refine yF h34 (S23 p0) ?_
  refine ysg ⟨[(E1 p0), E3, E4, (18, .one .top (.bool (strEq p1 (ByteArray.mk #[61]))))], [], H⟩ ?_ (h := (by generalize p0 = qp0; cases qp0 <;> kernel_rfl))
  refine w_join (α := (Bool × Int)) (fun x => (⟨[(E1 p0), (5, .one .top (.int .i64 x.2)), (6, .one .top (.bool x.1))], [], H⟩ : St)) (fun x => item_Gen_Two_j7 p0 H x.1 x.2 = some (Hr, ra)) ?_ ?_
  rintro ⟨j35, j36⟩ hF
  replace hF : item_Gen_Two_j7 p0 H j35 j36 = some (Hr, ra) := hF
  unfold item_Gen_Two_j7 at hF
  exact ⟨(j35, j36), hF, (by kernel_rfl)⟩
  rcases if_inv hF with ⟨h37, hF⟩ | ⟨h37, hF⟩
  refine yT h37 (S27 p0) ?_
  refine w_reg ⟨[(E1 p0), (5, .one .top (.int .i64 16)), E3], [], H⟩ (by generalize p0 = qp0; cases qp0 <;> kernel_rfl) ?_
  exact ⟨(false, 16), hF, (by kernel_rfl)⟩
  refine yF h37 (S23 p0) ?_
  refine ysg ⟨[(E1 p0), E3, E4, (20, .one .top (.bool (strEq p1 (ByteArray.mk #[35]))))], [], H⟩ ?_ (h := (by generalize p0 = qp0; cases qp0 <;> kernel_rfl))
  refine w_join (α := (Bool × Int)) (fun x => (⟨[(E1 p0), (5, .one .top (.int .i64 x.2)), (6, .one .top (.bool x.1))], [], H⟩ : St)) (fun x => item_Gen_Two_j8 p0 H x.1 x.2 = some (Hr, ra)) ?_ ?_
  rintro ⟨j38, j39⟩ hF
  replace hF : item_Gen_Two_j8 p0 H j38 j39 = some (Hr, ra) := hF
  unfold item_Gen_Two_j8 at hF
  exact ⟨(j38, j39), hF, (by kernel_rfl)⟩
  rcases if_inv hF with ⟨h40, hF⟩ | ⟨h40, hF⟩
  refine yT h40 (S27 p0) ?_
  refine w_reg ⟨[(E1 p0), (5, .one .top (.int .i64 17)), E3], [], H⟩ (by generalize p0 = qp0; cases qp0 <;> kernel_rfl) ?_
  exact ⟨(false, 17), hF, (by kernel_rfl)⟩
  refine yF h40 (S23 p0) ?_
  refine ysg ⟨[(E1 p0), E3, E4, (22, .one .top (.bool (strEq p1 (ByteArray.mk #[60]))))], [], H⟩ ?_ (h := (by generalize p0 = qp0; cases qp0 <;> kernel_rfl))
  refine w_join (α := (Bool × Int)) (fun x => (⟨[(E1 p0), (5, .one .top (.int .i64 x.2)), (6, .one .top (.bool x.1))], [], H⟩ : St)) (fun x => item_Gen_Two_j9 p0 H x.1 x.2 = some (Hr, ra)) ?_ ?_
  rintro ⟨j41, j42⟩ hF
  replace hF : item_Gen_Two_j9 p0 H j41 j42 = some (Hr, ra) := hF
  unfold item_Gen_Two_j9 at hF
  exact ⟨(j41, j42), hF, (by kernel_rfl)⟩
  rcases if_inv hF with ⟨h43, hF⟩ | ⟨h43, hF⟩
  refine yT h43 (S27 p0) ?_
  refine w_reg ⟨[(E1 p0), E19, E3], [], H⟩ (by generalize p0 = qp0; cases qp0 <;> kernel_rfl) ?_
  exact ⟨(false, 14), hF, (by kernel_rfl)⟩
  refine yF h43 (S23 p0) ?_
  refine ysg ⟨[(E1 p0), E3, E4, (24, .one .top (.bool (strEq p1 (ByteArray.mk #[60, 61]))))], [], H⟩ ?_ (h := (by generalize p0 = qp0; cases qp0 <;> kernel_rfl))
  refine w_join (α := (Bool × Int)) (fun x => (⟨[(E1 p0), (5, .one .top (.int .i64 x.2)), (6, .one .top (.bool x.1))], [], H⟩ : St)) (fun x => item_Gen_Two_j10 p0 H x.1 x.2 = some (Hr, ra)) ?_ ?_
  rintro ⟨j44, j45⟩ hF
  replace hF : item_Gen_Two_j10 p0 H j44 j45 = some (Hr, ra) := hF
  unfold item_Gen_Two_j10 at hF
  exact ⟨(j44, j45), hF, (by kernel_rfl)⟩
  rcases if_inv hF with ⟨h46, hF⟩ | ⟨h46, hF⟩
  refine yT h46 (S27 p0) ?_
  refine w_reg ⟨[(E1 p0), E20, E3], [], H⟩ (by generalize p0 = qp0; cases qp0 <;> kernel_rfl) ?_
  exact ⟨(false, 15), hF, (by kernel_rfl)⟩
  refine yF h46 (S28 p0) ?_
  refine ysg ⟨[(E1 p0), E4, (26, .one .top (.bool (strEq p1 (ByteArray.mk #[62]))))], [], H⟩ ?_ (h := (by generalize p0 = qp0; cases qp0 <;> kernel_rfl))
  refine w_join (α := (Int)) (fun x => (⟨[(E1 p0), (5, .one .top (.int .i64 x)), E21], [], H⟩ : St)) (fun x => item_Gen_Two_j11 p0 H x = some (Hr, ra)) ?_ ?_
  rintro j47 hF
  replace hF : item_Gen_Two_j11 p0 H j47 = some (Hr, ra) := hF
  unfold item_Gen_Two_j11 at hF
  exact ⟨(true, j47), hF, (by kernel_rfl)⟩
  rcases if_inv hF with ⟨h48, hF⟩ | ⟨h48, hF⟩
  refine yT h48 ⟨[(E1 p0)], [], H⟩ ?_
  refine w_reg ⟨[(E1 p0), E19, E21], [], H⟩ (by generalize p0 = qp0; cases qp0 <;> kernel_rfl) ?_
  exact ⟨14, hF, (by kernel_rfl)⟩
  refine yF h48 (S28 p0) ?_
  refine ysg ⟨[(E1 p0), (28, .one .top (.bool (strEq p1 (ByteArray.mk #[62, 61]))))], [], H⟩ ?_ (h := (by generalize p0 = qp0; cases qp0 <;> kernel_rfl))
  rcases if_inv hF with ⟨h49, hF⟩ | ⟨h49, hF⟩
  refine yT h49 ⟨[(E1 p0)], [], H⟩ ?_
  refine w_reg ⟨[(E1 p0), E20, E21], [], H⟩ (by generalize p0 = qp0; cases qp0 <;> kernel_rfl) ?_
  exact ⟨15, hF, (by kernel_rfl)⟩
  refine yF h49 ⟨[], [], H⟩ ?_
  refine ysg ⟨[(4, .one .top (.int .i64 110))], [], H⟩ ?_
  refine w_ret ?_
  obtain ⟨e0, e1⟩ := some2_inv hF
  subst e0
  subst e1
  exact yi (.one .top (.int .i64 110))
noncomputable def slices_Clone_api_Segment_api_Segment  (p0 : (List T_api_Segment)) : Option ((List T_api_Segment)) :=
  bind1 (app 16 ([] : List T_api_Segment) p0) fun v1 =>
  some v1
theorem ok_slices_Clone_api_Segment_api_Segment (H : Heap) {p0 : (List T_api_Segment)} {ra : (List T_api_Segment)} (hF : slices_Clone_api_Segment_api_Segment p0 = some ra) : evS X 130 [.one .bh (.sl 2 (List.map e_api_Segment p0))] H = some (.one (.own 1) (.sl 2 (List.map e_api_Segment ra)), H) := by
  let E1 : EN := (0, .one .bh (.sl 2 (List.map e_api_Segment p0)))
  let E2 : EN := (2, .one (.own 1) (.sl 2 (List.map e_api_Segment ([] : List T_api_Segment))))
  let E3 : EN := (3, .one .bh (.sl 2 (List.map e_api_Segment p0)))
  let E4 : EN := (4, .one .top (.bool true))
  let E5 : EN := (4, .one .top (.bool false))
  let E6 : EN := (5, .one (.own 1) (.sl 2 (List.map e_api_Segment ([] : List T_api_Segment))))
  let E7 : EN := (6, .one .bh (.sl 2 (List.map e_api_Segment p0)))
  let E8 : EN := (5, .one .top .junk)
  let S10 : St := ⟨[E1], [], H⟩
  refine k_fun Try.func130 rfl (by kernel_rfl) (by kernel_rfl) (by kernel_rfl) (s0 := S10) (by kernel_rfl) ?_
  unfold slices_Clone_api_Segment_api_Segment at hF
  obtain ⟨v1, h2, hF⟩ := bind1_inv hF
  let E9 : EN := (2, .one (.own 1) (.sl 2 (List.map e_api_Segment v1)))
  obtain e0 := some1_inv hF
  subst e0
  refine k_seq ?_
  refine k_region ?_
  refine k_step (⟨[E1, E2], [], H⟩ : St) (by kernel_rfl) (by kernel_rfl) ?_
  refine k_done S10 (by kernel_rfl) ?_
  refine k_seq ?_
  refine k_seq ?_
  refine k_region ?_
  refine k_step (⟨[E1, E3], [], H⟩ : St) (by kernel_rfl) (by kernel_rfl) ?_
  refine k_nil (d := 4) (t := 129) (x := .tmp 3) (m := .bh) (z := 2) (xs := List.map e_api_Segment p0) (⟨[E1, E3, E4], [], H⟩ : St) (⟨[E1, E3, E5], [], H⟩ : St) (by kernel_rfl) (by kernel_rfl) (by kernel_rfl) (by kernel_rfl) ?_ ?_
  intro hx
  obtain rfl := List.map_eq_nil_iff.1 hx
  obtain rfl := app_nil h2
  refine k_done (⟨[E1, E4], [], H⟩ : St) (by kernel_rfl) ?_
  refine k_condT (m := .top) (by kernel_rfl) (s1 := (⟨[], [], H⟩ : St)) (by kernel_rfl) ?_
  refine k_seq ?_
  refine k_region ?_
  refine k_step (⟨[E2], [], H⟩ : St) (by kernel_rfl) (by kernel_rfl) ?_
  refine k_done (⟨[E2], [], H⟩ : St) (by kernel_rfl) ?_
  refine k_ret ?_
  exact k_fin (v := .one (.own 1) (.sl 2 (List.map e_api_Segment ([] : List T_api_Segment)))) (by kernel_rfl) (by kernel_rfl) rfl
  refine k_done (⟨[E1, E5], [], H⟩ : St) (by kernel_rfl) ?_
  refine k_condF (m := .top) (by kernel_rfl) (s1 := S10) (by kernel_rfl) ?_
  refine k_skip ?_
  refine k_seq ?_
  refine k_region ?_
  refine k_step (⟨[E1, E6], [], H⟩ : St) (by kernel_rfl) (by kernel_rfl) ?_
  refine k_step (⟨[E1, E6, E7], [], H⟩ : St) (by kernel_rfl) (by kernel_rfl) ?_
  refine k_step (⟨[E1, E8, E7, (7, .one (.own 1) (.sl 2 (List.map e_api_Segment v1)))], [], H⟩ : St) (by kernel_rfl) (st_app (X := X) (⟨[E1, E8, E7], [], H⟩ : St) 16 h2 129 129 170 2 0 [(.top, .int .i64 0), (.top, .int .i64 0)] .bh e_api_Segment 9 (some 7) (by kernel_rfl) (by kernel_rfl) (by kernel_rfl) (by kernel_rfl) (by kernel_rfl) (by kernel_rfl) (by kernel_rfl) (by kernel_rfl) (depth_flat rfl fun _ => rfl) (fun _ => rfl) (by kernel_rfl)) ?_
  refine k_step (⟨[E1, E9, E8, E7, (7, .one .top .junk)], [], H⟩ : St) (by kernel_rfl) (by kernel_rfl) ?_
  refine k_done (⟨[E9], [], H⟩ : St) (by kernel_rfl) ?_
  refine k_ret ?_
  exact k_fin (v := .one (.own 1) (.sl 2 (List.map e_api_Segment v1))) (by kernel_rfl) (by kernel_rfl) rfl
noncomputable def ranges_Builder_List (H : Heap) (p0 : Ptr) : Option ((List T_api_Segment)) :=
  (p0).bnd fun i1 o2 =>
  bind1 (get_ranges_Builder H i1 o2) fun x4 =>
  bind1 (slices_Clone_api_Segment_api_Segment x4.list_) fun r6 =>
  some r6
theorem ok_ranges_Builder_List (H : Heap) {p0 : Ptr} {ra : (List T_api_Segment)} (hF : ranges_Builder_List H p0 = some ra) : evS X 110 [.one .top (Ptr.av p0)] H = some (.one (.own 1) (.sl 2 (List.map e_api_Segment ra)), H) := by
  let E1 : Ptr → EN := fun z0 => (0, .one .top (Ptr.av z0))
  refine yf Try.func110 true ⟨[(E1 p0)], [], H⟩ ?_
  unfold ranges_Builder_List at hF
  refine ysg ⟨[(E1 p0)], [], H⟩ ?_ (h := (by generalize p0 = qp0; cases qp0 <;> kernel_rfl))
  refine w_seq ?_
  obtain ⟨i1, o2, h3, hF⟩ := pbnd_inv hF
  let E3 : EN := (0, .one .top (.obj i1 o2))
  let E4 : EN := (3, .one .top (.obj i1 o2))
  let E5 : EN := (4, .one .top (.obj i1 o2))
  let E6 : EN := (5, .one .top (.obj i1 o2))
  let S8 : St := ⟨[E3, E4, E5, E6], [], H⟩
  obtain ⟨x4, V5, hF⟩ := bind1_inv hF
  replace V5 := hgetT_inv V5
  let E7 : EN := (6, .one .bh (.sl 2 (List.map e_api_Segment x4.list_)))
  let S9 : St := ⟨[E3, E4, E5, E6, E7], [], H⟩
  obtain ⟨r6, c7, hF⟩ := bind1_inv hF
  let E2 : EN := (2, .one (.own 1) (.sl 2 (List.map e_api_Segment r6)))
  refine w_regO ⟨[E2], [], H⟩ ?_ ?_
  refine yr 1 ⟨[(E1 p0), (3, .one .top (Ptr.av p0))], [], H⟩ ?_ (h := (by generalize p0 = qp0; cases qp0 <;> kernel_rfl))
  refine o_eq (congrArg (fun q => (⟨[(0, .one .top (Ptr.av q)), (3, .one .top (Ptr.av q))], [], H⟩ : St)) h3) ?_
  refine yr 1 ⟨[E3, E4, E5], [], H⟩ ?_
  refine yr 1 S8 ?_
  refine o_one S9 (yd (X := X) S8 129 V5 0 1 false (.one .bh (.sl 2 (List.map e_api_Segment x4.list_))) (some 6)) ?_
  refine o_one ⟨[E3, E4, E5, E6, E7, (7, .one (.own 1) (.sl 2 (List.map e_api_Segment r6)))], [], H⟩ (yc (some 7) true false S9 (ok_slices_Clone_api_Segment_api_Segment H c7)) ?_
  refine yr 1 ⟨[E3, E2, E4, E5, E6, E7, (7, .one .top .junk)], [], H⟩ ?_
  exact ye
  refine w_ret ?_
  obtain e0 := some1_inv hF
  subst e0
  exact yp (.one (.own 1) (.sl 2 (List.map e_api_Segment r6)))
end Go.Proofs.Abs
