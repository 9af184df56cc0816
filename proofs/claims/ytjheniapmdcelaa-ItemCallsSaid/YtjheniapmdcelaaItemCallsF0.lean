/- The law ItemCalls: whatever the input, it answers true. No conditions. (Part ItemCallsF0 of its proof.) -/
import Derived.Test.YtjheniapmdcelaaItemCallsX
set_option linter.unusedVariables false
set_option linter.unusedSimpArgs false
set_option linter.unusedSectionVars false
/- Printed by gen (walk.py). -/
namespace Go.Proofs.Abs
open Go Go.Proofs
set_option linter.unusedVariables false
set_option maxRecDepth 100000
set_option maxHeartbeats 0
noncomputable def ranges_Builder_Mark_j1 (i1 : Nat) (o2 : Nat) (p2 : Int) (j11 : Int) (H12 : Heap) : Option (Heap) :=
  bind1 (get_ranges_Builder H12 i1 o2) fun x13 =>
  bind1 (if (decide ((x13.list_.length : Int) > 0)) = true then (bind1 (gi x13.list_ (IntKind.wrap .i64 ((x13.list_.length : Int) - 1))) fun x16 =>
  some (x16.Pad_ == p2)) else (some false)) fun w18 =>
  if w18 = true then (some H12)
  else (bind1 (app 16 x13.list_ ([(T_api_Segment.mk j11 p2)] : List T_api_Segment)) fun v21 =>
  bnd (set_ranges_Builder H12 i1 o2 (T_ranges_Builder.mk v21)) fun H23 =>
  some H23)
noncomputable def ranges_Builder_Mark (H : Heap) (p0 : Ptr) (p1 : Int) (p2 : Int) : Option (Heap) :=
  (p0).bnd fun i1 o2 =>
  bind1 (get_ranges_Builder H i1 o2) fun x4 =>
  bind1 (if (decide ((x4.list_.length : Int) > 0)) = true then (bind1 (gi x4.list_ (IntKind.wrap .i64 ((x4.list_.length : Int) - 1))) fun x7 =>
  some (decide (p1 ≤ x7.Start_))) else (some false)) fun w9 =>
  if w9 = true then (bind1 (gi x4.list_ (IntKind.wrap .i64 ((x4.list_.length : Int) - 1))) fun x27 =>
  bind1 (cut x4.list_ 0 (IntKind.wrap .i64 ((x4.list_.length : Int) - 1))) fun v29 =>
  bnd (set_ranges_Builder H i1 o2 (T_ranges_Builder.mk v29)) fun H31 =>
  ranges_Builder_Mark_j1 i1 o2 p2 x27.Start_ H31)
  else (ranges_Builder_Mark_j1 i1 o2 p2 p1 H)
theorem ok_ranges_Builder_Mark (H : Heap) {p0 : Ptr} {p1 : Int} {p2 : Int} {Hr : Heap} (hF : ranges_Builder_Mark H p0 p1 p2 = some Hr) : evS X 111 [.one .top (Ptr.av p0), .one .top (.int .i64 p1), .one .top (.int .i64 p2)] H = some (.tup [], Hr) := by
 let E1 : EN := (1, vi p1)
 let E2 : EN := (2, vi p2)
 let E11 : EN := (14, vT)
 let E12 : EN := (15, vT)
 let E13 : EN := (16, vi p1)
 let E29 : EN := (53, vT)
 let E30 : EN := (54, vT)
 let E44 : EN := (73, vi p2)
 let E46 : EN := (71, .one .top .junk)
 let E47 : EN := (75, .one .top .junk)
 let E51 : EN := (76, .one .top .junk)
 let E67 : EN := (41, .one .top .junk)
 let E71 : EN := (44, .one .top .junk)
 refine yf Try.func111 false ⟨[(0, vp p0), E1, E2], [], H⟩ ?_
 unfold ranges_Builder_Mark at hF
 refine w_seq ?_
 refine w_seq ?_
 obtain ⟨i1, o2, h3, hF⟩ := pbnd_inv hF
 let E3 : EN := (0, vo i1 o2)
 let E5 : EN := (8, vo i1 o2)
 let E6 : EN := (9, vo i1 o2)
 let E7 : EN := (10, vo i1 o2)
 let E14 : EN := (17, vo i1 o2)
 let E15 : EN := (18, vo i1 o2)
 let E16 : EN := (19, vo i1 o2)
 let E23 : EN := (47, vo i1 o2)
 let E24 : EN := (48, vo i1 o2)
 let E25 : EN := (49, vo i1 o2)
 let E31 : EN := (55, vo i1 o2)
 let E32 : EN := (56, vo i1 o2)
 let E33 : EN := (57, vo i1 o2)
 let E38 : EN := (67, vo i1 o2)
 let E39 : EN := (68, vo i1 o2)
 let E40 : EN := (69, vo i1 o2)
 let E41 : EN := (70, vo i1 o2)
 let E49 : EN := (77, vo i1 o2)
 let E50 : EN := (78, vo i1 o2)
 let E53 : EN := (28, vo i1 o2)
 let E54 : EN := (29, vo i1 o2)
 let E55 : EN := (30, vo i1 o2)
 let E60 : EN := (37, vo i1 o2)
 let E61 : EN := (38, vo i1 o2)
 let E62 : EN := (39, vo i1 o2)
 let E63 : EN := (40, vo i1 o2)
 let E69 : EN := (45, vo i1 o2)
 let E70 : EN := (46, vo i1 o2)
 let S72 : St := ⟨[E3, E1, E2, E5, E6, E7], [], H⟩
 obtain ⟨x4, V5, hF⟩ := bind1_inv hF
 replace V5 := hgetT_inv V5
 let E4 : EN := (6, vi (x4.list_.length : Int))
 let E8 : EN := (11, .one .bh (.sl 2 (List.map e_api_Segment x4.list_)))
 let E9 : EN := (12, vi (x4.list_.length : Int))
 let E10 : EN := (13, vi (x4.list_.length : Int))
 let E17 : EN := (20, .one .bh (.sl 2 (List.map e_api_Segment x4.list_)))
 let E18 : EN := (21, vi (x4.list_.length : Int))
 let E19 : EN := (22, vi (IntKind.wrap .i64 ((x4.list_.length : Int) - 1)))
 let E56 : EN := (31, .one .bh (.sl 2 (List.map e_api_Segment x4.list_)))
 let E57 : EN := (32, vi (x4.list_.length : Int))
 let E58 : EN := (33, vi (IntKind.wrap .i64 ((x4.list_.length : Int) - 1)))
 let E64 : EN := (41, .one (.own 1) (.sl 2 (List.map e_api_Segment x4.list_)))
 let E65 : EN := (42, vi (x4.list_.length : Int))
 let E66 : EN := (43, vi (IntKind.wrap .i64 ((x4.list_.length : Int) - 1)))
 let S73 : St := ⟨[E3, E1, E2, E5, E6, E7, E8], [], H⟩
 let S74 : St := ⟨[E3, E1, E2, E4, E10, E11, E12, E13, E14, E15, E16], [], H⟩
 let S75 : St := ⟨[E3, E1, E2, E4, E10, E11, E12, E13, E14, E15, E16, E17, E18, E19], [], H⟩
 let S81 : St := ⟨[E3, E2, E4, E53, E54, E55], [], H⟩
 let S82 : St := ⟨[E3, E2, E4, E53, E54, E55, E56, E57, E58], [], H⟩
 refine w_regO ⟨[E3, E1, E2, E4], [], H⟩ ?_ ?_
 refine yr 1 ⟨[(0, vp p0), E1, E2, (8, vp p0)], [], H⟩ ?_ (h := (by generalize p0 = qp0; cases qp0 <;> kernel_rfl))
 refine o_eq (congrArg (fun q => (⟨[(0, vp q), E1, E2, (8, vp q)], [], H⟩ : St)) h3) ?_
 refine yr 1 ⟨[E3, E1, E2, E5, E6], [], H⟩ ?_
 refine yr 1 S72 ?_
 refine o_one S73 (yd (X := X) S72 129 V5 0 1 false (.one .bh (.sl 2 (List.map e_api_Segment x4.list_))) (some 11)) ?_
 refine o_one ⟨[E3, E1, E2, E5, E6, E7, E8, E9], [], H⟩ (yl S73 x4.list_ e_api_Segment (some 12)) ?_
 refine yr 1 ⟨[E3, E1, E2, E4, E5, E6, E7, E8, E9], [], H⟩ ?_
 exact ye
 refine w_seq ?_
 obtain ⟨w9, hB10, hF⟩ := bind1_inv hF
 refine w_regO ⟨[E3, E1, E2, E4, (27, vb w9)], [], H⟩ ?_ ?_
 refine yr 3 ⟨[E3, E1, E2, E4, E10, (14, vb (decide ((x4.list_.length : Int) > 0))), (15, vb (decide ((x4.list_.length : Int) > 0)))], [], H⟩ ?_
 rcases if_inv hB10 with ⟨h6, hB10⟩ | ⟨h6, hB10⟩
 refine o_eq (congrArg (fun q => (⟨[E3, E1, E2, E4, E10, (14, vb q), (15, vb q)], [], H⟩ : St)) h6) ?_
 refine yr 4 S74 ?_
 refine o_one ⟨[E3, E1, E2, E4, E10, E11, E12, E13, E14, E15, E16, E17], [], H⟩ (yd (X := X) S74 129 V5 0 1 false (.one .bh (.sl 2 (List.map e_api_Segment x4.list_))) (some 20)) ?_
 refine yr 2 S75 ?_
 obtain ⟨x7, h8, hB10⟩ := bind1_inv hB10
 let E20 : EN := (23, .one .top (.rd .bh .bh [.int .i64 x7.Start_, .int .i64 x7.Pad_] 0))
 refine o_one ⟨[E3, E1, E2, E4, E10, E11, E12, E13, E14, E15, E16, E17, E18, E19, E20], [], H⟩ (st_ix (X := X) S75 129 170 2 h8 e_api_Segment .bh (some 23) (by kernel_rfl) (by kernel_rfl) (by kernel_rfl) (by kernel_rfl)) ?_
 refine yr 4 ⟨[E3, E1, E2, E4, E10, E11, E12, E13, E14, E15, E16, E17, E18, E19, E20, (24, .one .top (.rd .bh .bh [.int .i64 x7.Start_, .int .i64 x7.Pad_] 0)), (25, vi x7.Start_), (26, vb (decide (p1 ≤ x7.Start_))), (27, vb (decide (p1 ≤ x7.Start_)))], [], H⟩ ?_
 cases hB10
 exact ye
 refine o_eq (congrArg (fun q => (⟨[E3, E1, E2, E4, E10, (14, vb q), (15, vb q)], [], H⟩ : St)) h6) ?_
 refine yr 12 ⟨[E3, E1, E2, E4, E10, (14, vF), (15, vF), (16, vN), (17, vN), (18, vN), (19, vN), (20, vN), (21, vN), (22, vN), (23, vN), (24, vN), (25, vN), (26, vN), (27, vF)], [], H⟩ ?_
 cases hB10
 exact ye
 refine w_join (α := (Int × Heap)) (fun x => (⟨[E3, (1, vi x.1), E2], [], x.2⟩ : St)) (fun x => ranges_Builder_Mark_j1 i1 o2 p2 x.1 x.2 = some Hr) ?_ ?_
 rintro ⟨j11, H12⟩ hF
 replace hF : ranges_Builder_Mark_j1 i1 o2 p2 j11 H12 = some Hr := hF
 let E21 : EN := (1, vi j11)
 let E43 : EN := (72, vi j11)
 let E45 : EN := (74, .agg [(.top, .int .i64 j11), (.top, .int .i64 p2)])
 let S76 : St := ⟨[E3, E21, E2, E23, E24, E25], [], H12⟩
 let S80 : St := ⟨[E3, E21, E2, E38, E39, E40, E41], [], H12⟩
 unfold ranges_Builder_Mark_j1 at hF
 refine w_seq ?_
 refine w_seq ?_
 obtain ⟨x13, V14, hF⟩ := bind1_inv hF
 replace V14 := hgetT_inv V14
 let E22 : EN := (7, vi (x13.list_.length : Int))
 let E26 : EN := (50, .one .bh (.sl 2 (List.map e_api_Segment x13.list_)))
 let E27 : EN := (51, vi (x13.list_.length : Int))
 let E28 : EN := (52, vi (x13.list_.length : Int))
 let E34 : EN := (58, .one .bh (.sl 2 (List.map e_api_Segment x13.list_)))
 let E35 : EN := (59, vi (x13.list_.length : Int))
 let E36 : EN := (60, vi (IntKind.wrap .i64 ((x13.list_.length : Int) - 1)))
 let E42 : EN := (71, .one (.own 1) (.sl 2 (List.map e_api_Segment x13.list_)))
 let S77 : St := ⟨[E3, E21, E2, E23, E24, E25, E26], [], H12⟩
 let S78 : St := ⟨[E3, E21, E2, E22, E28, E29, E30, E31, E32, E33], [], H12⟩
 let S79 : St := ⟨[E3, E21, E2, E22, E28, E29, E30, E31, E32, E33, E34, E35, E36], [], H12⟩
 refine w_regO ⟨[E3, E21, E2, E22], [], H12⟩ ?_ ?_
 refine yr 2 ⟨[E3, E21, E2, E23, E24], [], H12⟩ ?_
 refine yr 1 S76 ?_
 refine o_one S77 (yd (X := X) S76 129 V14 0 1 false (.one .bh (.sl 2 (List.map e_api_Segment x13.list_))) (some 50)) ?_
 refine o_one ⟨[E3, E21, E2, E23, E24, E25, E26, E27], [], H12⟩ (yl S77 x13.list_ e_api_Segment (some 51)) ?_
 refine yr 1 ⟨[E3, E21, E2, E22, E23, E24, E25, E26, E27], [], H12⟩ ?_
 exact ye
 refine w_seq ?_
 obtain ⟨w18, hB19, hF⟩ := bind1_inv hF
 refine w_regO ⟨[E3, E21, E2, (66, vb w18)], [], H12⟩ ?_ ?_
 refine yr 3 ⟨[E3, E21, E2, E22, E28, (53, vb (decide ((x13.list_.length : Int) > 0))), (54, vb (decide ((x13.list_.length : Int) > 0)))], [], H12⟩ ?_
 rcases if_inv hB19 with ⟨h15, hB19⟩ | ⟨h15, hB19⟩
 refine o_eq (congrArg (fun q => (⟨[E3, E21, E2, E22, E28, (53, vb q), (54, vb q)], [], H12⟩ : St)) h15) ?_
 refine yr 3 S78 ?_
 refine o_one ⟨[E3, E21, E2, E22, E28, E29, E30, E31, E32, E33, E34], [], H12⟩ (yd (X := X) S78 129 V14 0 1 false (.one .bh (.sl 2 (List.map e_api_Segment x13.list_))) (some 58)) ?_
 refine yr 2 S79 ?_
 obtain ⟨x16, h17, hB19⟩ := bind1_inv hB19
 let E37 : EN := (61, .one .top (.rd .bh .bh [.int .i64 x16.Start_, .int .i64 x16.Pad_] 0))
 refine o_one ⟨[E3, E21, E2, E22, E28, E29, E30, E31, E32, E33, E34, E35, E36, E37], [], H12⟩ (st_ix (X := X) S79 129 170 2 h17 e_api_Segment .bh (some 61) (by kernel_rfl) (by kernel_rfl) (by kernel_rfl) (by kernel_rfl)) ?_
 refine yr 5 ⟨[E3, E21, E2, E22, E28, E29, E30, E31, E32, E33, E34, E35, E36, E37, (62, .one .top (.rd .bh .bh [.int .i64 x16.Start_, .int .i64 x16.Pad_] 1)), (63, vi x16.Pad_), (64, vi p2), (65, vb (x16.Pad_ == p2)), (66, vb (x16.Pad_ == p2))], [], H12⟩ ?_
 cases hB19
 exact ye
 refine o_eq (congrArg (fun q => (⟨[E3, E21, E2, E22, E28, (53, vb q), (54, vb q)], [], H12⟩ : St)) h15) ?_
 refine yr 12 ⟨[E3, E21, E2, E22, E28, (53, vF), (54, vF), (55, vN), (56, vN), (57, vN), (58, vN), (59, vN), (60, vN), (61, vN), (62, vN), (63, vN), (64, vN), (65, vN), (66, vF)], [], H12⟩ ?_
 cases hB19
 exact ye
 rcases if_inv hF with ⟨h20, hF⟩ | ⟨h20, hF⟩
 refine yT h20 ⟨[], [], H12⟩ ?_
 refine w_ret ?_
 obtain e0 := some1_inv hF
 subst e0
 exact yi (vN)
 refine yF h20 ⟨[E3, E21, E2], [], H12⟩ ?_
 refine w_skip ?_
 obtain ⟨v21, h22, hF⟩ := bind1_inv hF
 let E48 : EN := (76, .one (.own 1) (.sl 2 (List.map e_api_Segment v21)))
 obtain ⟨H23, h24, hF⟩ := bnd_inv hF
 have V25 : hget H23 i1 o2 1 = some (o_ranges_Builder (T_ranges_Builder.mk v21)) := by rw [← h24]; exact hset_get V14 rfl
 refine w_regO ⟨[], [], H23⟩ ?_ ?_
 refine yr 4 S80 ?_
 refine o_one ⟨[E3, E21, E2, E38, E39, E40, E41, E42], [], (hset H12 i1 o2 [(.top, .junk)])⟩ (st_ldT (X := X) (h2 := (hset H12 i1 o2 [(.top, .junk)])) S80 129 V14 0 1 false (.one (.own 1) (.sl 2 (List.map e_api_Segment x13.list_))) (some 71) (by kernel_rfl) (by kernel_rfl) (by kernel_rfl) (by kernel_rfl) (by kernel_rfl) (hset_sub0 (k := 0) V14 (Nat.le_of_ble_eq_true rfl)) (by kernel_rfl)) ?_
 refine yr 4 ⟨[E3, E21, E2, E38, E39, E40, E41, E42, E43, E44, E45, (75, .one (.own 1) (.sl 2 (List.map e_api_Segment ([(T_api_Segment.mk j11 p2)] : List T_api_Segment))))], [], (hset H12 i1 o2 [(.top, .junk)])⟩ ?_
 refine o_one ⟨[E3, E21, E2, E38, E39, E40, E41, E46, E43, E44, E45, E47, E48], [], (hset H12 i1 o2 [(.top, .junk)])⟩ (st_app (X := X) (⟨[E3, E21, E2, E38, E39, E40, E41, E46, E43, E44, E45, E47], [], (hset H12 i1 o2 [(.top, .junk)])⟩ : St) 16 h22 129 129 170 2 0 [(.top, .int .i64 0), (.top, .int .i64 0)] (.own 1) e_api_Segment 0 (some 76) (by kernel_rfl) (by kernel_rfl) (by kernel_rfl) (by kernel_rfl) (by kernel_rfl) (by kernel_rfl) (by kernel_rfl) (by kernel_rfl) (by kernel_rfl) (fun _ => rfl) (by kernel_rfl)) ?_
 refine yr 2 ⟨[E3, E21, E2, E38, E39, E40, E41, E46, E43, E44, E45, E47, E48, E49, E50], [], (hset H12 i1 o2 [(.top, .junk)])⟩ ?_
 refine o_one ⟨[E3, E21, E2, E38, E39, E40, E41, E46, E43, E44, E45, E47, E51, E49, E50], [], (hset H12 i1 o2 [((.own 1), .sl 2 (List.map e_api_Segment v21))])⟩ (st_st (X := X) (lc := []) (h2 := (hset H12 i1 o2 [((.own 1), .sl 2 (List.map e_api_Segment v21))])) (⟨[E3, E21, E2, E38, E39, E40, E41, E46, E43, E44, E45, E47, E51, E49, E50], [], (hset H12 i1 o2 [(.top, .junk)])⟩ : St) 129 (hset_get V14 rfl) 0 1 (.one (.own 1) (.sl 2 (List.map e_api_Segment v21))) (by kernel_rfl) (by kernel_rfl) (by kernel_rfl) (by kernel_rfl) (by kernel_rfl) (by kernel_rfl) (hset_sub V14 rfl (Nat.le_of_ble_eq_true rfl)) (by kernel_rfl)) ?_
 refine o_eq (congrArg (fun q => (⟨[E3, E21, E2, E38, E39, E40, E41, E46, E43, E44, E45, E47, E51, E49, E50], [], q⟩ : St)) h24) ?_
 exact ye
 obtain e0 := some1_inv hF
 subst e0
 exact yi (vN)
 rcases if_inv hF with ⟨h26, hF⟩ | ⟨h26, hF⟩
 refine yT h26 ⟨[E3, E2, E4], [], H⟩ ?_
 refine w_seq ?_
 obtain ⟨x27, h28, hF⟩ := bind1_inv hF
 let E52 : EN := (1, vi x27.Start_)
 let E59 : EN := (34, .one .top (.rd .bh .bh [.int .i64 x27.Start_, .int .i64 x27.Pad_] 0))
 let S83 : St := ⟨[E3, E52, E2, E4, E60, E61, E62, E63], [], H⟩
 let S84 : St := ⟨[E3, E52, E2, E4, E60, E61, E62, E63, E67, E65, E66], [], (hset H i1 o2 [(.top, .junk)])⟩
 refine w_regO ⟨[E3, E52, E2, E4], [], H⟩ ?_ ?_
 refine yr 3 S81 ?_
 refine o_one ⟨[E3, E2, E4, E53, E54, E55, E56], [], H⟩ (yd (X := X) S81 129 V5 0 1 false (.one .bh (.sl 2 (List.map e_api_Segment x4.list_))) (some 31)) ?_
 refine yr 2 S82 ?_
 refine o_one ⟨[E3, E2, E4, E53, E54, E55, E56, E57, E58, E59], [], H⟩ (st_ix (X := X) S82 129 170 2 h28 e_api_Segment .bh (some 34) (by kernel_rfl) (by kernel_rfl) (by kernel_rfl) (by kernel_rfl)) ?_
 refine yr 3 ⟨[E3, E52, E2, E4, E53, E54, E55, E56, E57, E58, E59, (35, .one .top (.rd .bh .bh [.int .i64 x27.Start_, .int .i64 x27.Pad_] 0)), (36, vi x27.Start_)], [], H⟩ ?_
 exact ye
 obtain ⟨v29, h30, hF⟩ := bind1_inv hF
 let E68 : EN := (44, .one (.own 1) (.sl 2 (List.map e_api_Segment v29)))
 obtain ⟨H31, h32, hF⟩ := bnd_inv hF
 have V33 : hget H31 i1 o2 1 = some (o_ranges_Builder (T_ranges_Builder.mk v29)) := by rw [← h32]; exact hset_get V5 rfl
 refine w_regO ⟨[E3, E52, E2], [], H31⟩ ?_ ?_
 refine yr 4 S83 ?_
 refine o_one ⟨[E3, E52, E2, E4, E60, E61, E62, E63, E64], [], (hset H i1 o2 [(.top, .junk)])⟩ (st_ldT (X := X) (h2 := (hset H i1 o2 [(.top, .junk)])) S83 129 V5 0 1 false (.one (.own 1) (.sl 2 (List.map e_api_Segment x4.list_))) (some 41) (by kernel_rfl) (by kernel_rfl) (by kernel_rfl) (by kernel_rfl) (by kernel_rfl) (hset_sub0 (k := 0) V5 (Nat.le_of_ble_eq_true rfl)) (by kernel_rfl)) ?_
 refine yr 2 ⟨[E3, E52, E2, E4, E60, E61, E62, E63, E64, E65, E66], [], (hset H i1 o2 [(.top, .junk)])⟩ ?_
 refine o_one ⟨[E3, E52, E2, E4, E60, E61, E62, E63, E67, E65, E66, E68], [], (hset H i1 o2 [(.top, .junk)])⟩ (st_cut (X := X) S84 129 170 2 h30 e_api_Segment (.own 1) none (some (.tmp 43)) (some 44) (by kernel_rfl) (by kernel_rfl) (by kernel_rfl) (by kernel_rfl) (show bndIs X.P _ _ none _ from rfl) (show (opnd X.P S84 0 (.tmp 43)).bind natOf = some (IntKind.wrap .i64 ((x4.list_.length : Int) - 1)) by kernel_rfl) (by kernel_rfl)) ?_
 refine yr 2 ⟨[E3, E52, E2, E4, E60, E61, E62, E63, E67, E65, E66, E68, E69, E70], [], (hset H i1 o2 [(.top, .junk)])⟩ ?_
 refine o_one ⟨[E3, E52, E2, E4, E60, E61, E62, E63, E67, E65, E66, E71, E69, E70], [], (hset H i1 o2 [((.own 1), .sl 2 (List.map e_api_Segment v29))])⟩ (st_st (X := X) (lc := []) (h2 := (hset H i1 o2 [((.own 1), .sl 2 (List.map e_api_Segment v29))])) (⟨[E3, E52, E2, E4, E60, E61, E62, E63, E67, E65, E66, E71, E69, E70], [], (hset H i1 o2 [(.top, .junk)])⟩ : St) 129 (hset_get V5 rfl) 0 1 (.one (.own 1) (.sl 2 (List.map e_api_Segment v29))) (by kernel_rfl) (by kernel_rfl) (by kernel_rfl) (by kernel_rfl) (by kernel_rfl) (by kernel_rfl) (hset_sub V5 rfl (Nat.le_of_ble_eq_true rfl)) (by kernel_rfl)) ?_
 refine o_eq (congrArg (fun q => (⟨[E3, E52, E2, E4, E60, E61, E62, E63, E67, E65, E66, E71, E69, E70], [], q⟩ : St)) h32) ?_
 exact ye
 exact ⟨(x27.Start_, H31), hF, (by kernel_rfl)⟩
 refine yF h26 ⟨[E3, E1, E2], [], H⟩ ?_
 refine w_skip ?_
 exact ⟨(p1, H), hF, (by kernel_rfl)⟩
noncomputable def emit_New (H : Heap) : Option (Heap × Ptr) :=
  bnd H.length fun i2 =>
  bnd (new_emit_Code H (T_emit_Code.mk ([] : List Int) ([] : List T_api_Fixup) (T_ranges_Builder.mk ([] : List T_api_Segment)) ([] : List Int) ([] : List Int) 0 0 0)) fun H1 =>
  bind1 (get_emit_Code H1 i2 0) fun x5 =>
  bind1 (ranges_Builder_Mark H1 (Ptr.at i2 2) 0 (-1)) fun H8 =>
  some (H8, (Ptr.at i2 0))
theorem ok_emit_New (H : Heap) {ra : Ptr} {Hr : Heap} (hF : emit_New H = some (Hr, ra)) : evS X 109 [] H = some (.one .top (Ptr.av ra), Hr) := by
 let E2 : EN := (2, .agg (List.replicate 5 (.top, .junk) ++ [(.top, .int .i64 0), (.top, .int .i64 0), (.top, .int .i64 0)]))
 refine yf Try.func109 false ⟨[], [], H⟩ ?_
 unfold emit_New at hF
 refine ysg ⟨[], [], H⟩ ?_
 refine w_seq ?_
 obtain ⟨i2, h4, hF⟩ := bnd_inv hF
 let E1 : EN := (1, vo i2 0)
 let E3 : EN := (4, vo i2 0)
 let E4 : EN := (5, vo i2 0)
 obtain ⟨H1, h3, hF⟩ := bnd_inv hF
 let S5 : St := ⟨[E1, E3, E4, (6, vo i2 2)], [], H1⟩
 refine w_regO ⟨[E1], [], H1⟩ ?_ ?_
 refine yr 1 ⟨[(2, .agg [((.own 1), .sl 1 (List.map (eI .u32) ([] : List Int))), ((.own 1), .sl 4 (List.map e_api_Fixup ([] : List T_api_Fixup))), ((.own 1), .sl 2 (List.map e_api_Segment ([] : List T_api_Segment))), ((.own 1), .sl 1 (List.map (eI .i64) ([] : List Int))), ((.own 1), .sl 1 (List.map (eI .i64) ([] : List Int))), (.top, .int .i64 0), (.top, .int .i64 0), (.top, .int .i64 0)])], [], H⟩ ?_
 refine o_one ⟨[E2, (3, vo H.length 0)], [], (H ++ [[((.own 1), .sl 1 (List.map (eI .u32) ([] : List Int))), ((.own 1), .sl 4 (List.map e_api_Fixup ([] : List T_api_Fixup))), ((.own 1), .sl 2 (List.map e_api_Segment ([] : List T_api_Segment))), ((.own 1), .sl 1 (List.map (eI .i64) ([] : List Int))), ((.own 1), .sl 1 (List.map (eI .i64) ([] : List Int))), (.top, .int .i64 0), (.top, .int .i64 0), (.top, .int .i64 0)]])⟩ (by kernel_rfl) ?_
 refine o_eq (congr2 (fun q u => (⟨[E2, (3, vo q 0)], [], u⟩ : St)) h4 h3) ?_
 refine yr 1 ⟨[E1, E2, (3, vo i2 0)], [], H1⟩ ?_
 exact ye
 refine w_seq ?_
 obtain ⟨x5, V6, hF⟩ := bind1_inv hF
 replace V6 := hgetT_inv V6
 obtain ⟨H8, c7, hF⟩ := bind1_inv hF
 refine w_regO ⟨[E1], [], H8⟩ ?_ ?_
 refine yr 2 ⟨[E1, E3, E4], [], H1⟩ ?_
 refine yr 1 S5 ?_
 refine o_one ⟨[E1, E3, E4, (6, vo i2 2), (7, vN)], [], H8⟩ (yc (some 7) false false S5 (ok_ranges_Builder_Mark H1 c7)) ?_
 exact ye
 refine ysg ⟨[(0, vo i2 0)], [], H8⟩ ?_
 refine w_ret ?_
 obtain ⟨e0, e1⟩ := some2_inv hF
 subst e0
 subst e1
 exact yi (vo i2 0)
noncomputable def item_New (H : Heap) : Option (Heap × Ptr) :=
  bind2 (emit_New H) fun H3 r1 =>
  bnd H3.length fun i5 =>
  bnd (new_item_Gen H3 (T_item_Gen.mk r1 0 (T_item_Proc.mk 0 0 ([] : List Int) Ptr.nil))) fun H4 =>
  some (H4, (Ptr.at i5 0))
theorem ok_item_New (H : Heap) {ra : Ptr} {Hr : Heap} (hF : item_New H = some (Hr, ra)) : evS X 65 [] H = some (.one .top (Ptr.av ra), Hr) := by
 let S3 : St := ⟨[], [], H⟩
 refine yf Try.func65 false S3 ?_
 unfold item_New at hF
 refine ysg S3 ?_
 refine w_seq ?_
 obtain ⟨H3, r1, c2, hF⟩ := bind2_inv hF
 let E1 : Ptr → EN := fun z0 => (1, vp z0)
 let E2 : Ptr → EN := fun z0 => (2, .agg [(.top, (Ptr.av z0)), (.top, .int .i64 0), (.top, .int .i64 0), (.top, .int .i64 0), ((.own 0), .sl 1 (List.map (eI .i64) ([] : List Int))), (.top, .nilp)])
 obtain ⟨i5, h7, hF⟩ := bnd_inv hF
 obtain ⟨H4, h6, hF⟩ := bnd_inv hF
 refine w_regO ⟨[(0, vo i5 0)], [], H4⟩ ?_ ?_
 refine o_one ⟨[(E1 r1)], [], H3⟩ (yc (some 1) false false S3 (ok_emit_New H c2) (hr := (by generalize r1 = qp0; cases qp0 <;> kernel_rfl)) (hs := (by generalize r1 = qp0; cases qp0 <;> kernel_rfl))) ?_
 refine yr 1 ⟨[(E1 r1), (E2 r1)], [], H3⟩ ?_ (h := (by generalize r1 = qp0; cases qp0 <;> kernel_rfl))
 refine o_one ⟨[(E1 r1), (E2 r1), (3, vo H3.length 0)], [], (H3 ++ [[(.top, (Ptr.av r1)), (.top, .int .i64 0), (.top, .int .i64 0), (.top, .int .i64 0), ((.own 0), .sl 1 (List.map (eI .i64) ([] : List Int))), (.top, .nilp)]])⟩ (by generalize r1 = qp0; cases qp0 <;> kernel_rfl) ?_
 refine o_eq (congr2 (fun q u => (⟨[(E1 r1), (E2 r1), (3, vo q 0)], [], u⟩ : St)) h7 h6) ?_
 refine yr 1 ⟨[(0, vo i5 0), (E1 r1), (E2 r1), (3, vo i5 0)], [], H4⟩ ?_ (h := (by generalize r1 = qp0; cases qp0 <;> kernel_rfl))
 exact ye
 refine w_ret ?_
 obtain ⟨e0, e1⟩ := some2_inv hF
 subst e0
 subst e1
 exact yi (vo i5 0)
noncomputable def instr_Shape_j7 (p0 : Int) (j14 : Bool) : Option (Int) :=
  if j14 = true then (some 7)
  else (if (p0 == 28) = true then (some 8)
  else (some (-1)))
noncomputable def instr_Shape_j6 (p0 : Int) (j12 : Bool) : Option (Int) :=
  if j12 = true then (some 6)
  else (if (p0 == 22) = true then (instr_Shape_j7 p0 (p0 == 22))
  else (instr_Shape_j7 p0 (p0 == 23)))
noncomputable def instr_Shape_j8 (p0 : Int) (j19 : Bool) : Option (Int) :=
  instr_Shape_j6 p0 j19
noncomputable def instr_Shape_j9 (p0 : Int) (j21 : Bool) : Option (Int) :=
  instr_Shape_j8 p0 j21
noncomputable def instr_Shape_j10 (p0 : Int) (j23 : Bool) : Option (Int) :=
  instr_Shape_j9 p0 j23
noncomputable def instr_Shape_j11 (p0 : Int) (j25 : Bool) : Option (Int) :=
  instr_Shape_j10 p0 j25
noncomputable def instr_Shape_j5 (p0 : Int) (j10 : Bool) : Option (Int) :=
  if j10 = true then (some 5)
  else (if (p0 == 24) = true then (instr_Shape_j6 p0 (p0 == 24))
  else (if (p0 == 25) = true then (instr_Shape_j8 p0 (p0 == 25))
  else (if (p0 == 27) = true then (instr_Shape_j9 p0 (p0 == 27))
  else (if (p0 == 29) = true then (instr_Shape_j10 p0 (p0 == 29))
  else (if (p0 == 31) = true then (instr_Shape_j11 p0 (p0 == 31))
  else (instr_Shape_j11 p0 (p0 == 32)))))))
noncomputable def instr_Shape_j12 (p0 : Int) (j28 : Bool) : Option (Int) :=
  instr_Shape_j5 p0 j28
noncomputable def instr_Shape_j13 (p0 : Int) (j30 : Bool) : Option (Int) :=
  instr_Shape_j12 p0 j30
noncomputable def instr_Shape_j14 (p0 : Int) (j32 : Bool) : Option (Int) :=
  instr_Shape_j13 p0 j32
noncomputable def instr_Shape_j15 (p0 : Int) (j34 : Bool) : Option (Int) :=
  instr_Shape_j14 p0 j34
noncomputable def instr_Shape_j16 (p0 : Int) (j36 : Bool) : Option (Int) :=
  instr_Shape_j15 p0 j36
noncomputable def instr_Shape_j17 (p0 : Int) (j38 : Bool) : Option (Int) :=
  instr_Shape_j16 p0 j38
noncomputable def instr_Shape_j18 (p0 : Int) (j40 : Bool) : Option (Int) :=
  instr_Shape_j17 p0 j40
noncomputable def instr_Shape_j19 (p0 : Int) (j42 : Bool) : Option (Int) :=
  instr_Shape_j18 p0 j42
noncomputable def instr_Shape_j20 (p0 : Int) (j44 : Bool) : Option (Int) :=
  instr_Shape_j19 p0 j44
noncomputable def instr_Shape_j21 (p0 : Int) (j46 : Bool) : Option (Int) :=
  instr_Shape_j20 p0 j46
noncomputable def instr_Shape_j4 (p0 : Int) (j8 : Bool) : Option (Int) :=
  if j8 = true then (some 4)
  else (if (p0 == 6) = true then (instr_Shape_j5 p0 (p0 == 6))
  else (if (p0 == 7) = true then (instr_Shape_j12 p0 (p0 == 7))
  else (if (p0 == 8) = true then (instr_Shape_j13 p0 (p0 == 8))
  else (if (p0 == 9) = true then (instr_Shape_j14 p0 (p0 == 9))
  else (if (p0 == 10) = true then (instr_Shape_j15 p0 (p0 == 10))
  else (if (p0 == 11) = true then (instr_Shape_j16 p0 (p0 == 11))
  else (if (p0 == 12) = true then (instr_Shape_j17 p0 (p0 == 12))
  else (if (p0 == 13) = true then (instr_Shape_j18 p0 (p0 == 13))
  else (if (p0 == 14) = true then (instr_Shape_j19 p0 (p0 == 14))
  else (if (p0 == 15) = true then (instr_Shape_j20 p0 (p0 == 15))
  else (if (p0 == 16) = true then (instr_Shape_j21 p0 (p0 == 16))
  else (instr_Shape_j21 p0 (p0 == 17)))))))))))))
noncomputable def instr_Shape_j22 (p0 : Int) (j49 : Bool) : Option (Int) :=
  instr_Shape_j4 p0 j49
noncomputable def instr_Shape_j3 (p0 : Int) (j6 : Bool) : Option (Int) :=
  if j6 = true then (some 3)
  else (if (p0 == 4) = true then (instr_Shape_j4 p0 (p0 == 4))
  else (if (p0 == 34) = true then (instr_Shape_j22 p0 (p0 == 34))
  else (instr_Shape_j22 p0 (p0 == 26))))
noncomputable def instr_Shape_j23 (p0 : Int) (j52 : Bool) : Option (Int) :=
  instr_Shape_j3 p0 j52
noncomputable def instr_Shape_j2 (p0 : Int) (j4 : Bool) : Option (Int) :=
  if j4 = true then (some 2)
  else (if (p0 == 5) = true then (instr_Shape_j3 p0 (p0 == 5))
  else (if (p0 == 18) = true then (instr_Shape_j23 p0 (p0 == 18))
  else (instr_Shape_j23 p0 (p0 == 19))))
noncomputable def instr_Shape_j24 (p0 : Int) (j55 : Bool) : Option (Int) :=
  instr_Shape_j2 p0 j55
noncomputable def instr_Shape_j1 (p0 : Int) (j2 : Bool) : Option (Int) :=
  if j2 = true then (some 1)
  else (if (p0 == 3) = true then (instr_Shape_j2 p0 (p0 == 3))
  else (if (p0 == 30) = true then (instr_Shape_j24 p0 (p0 == 30))
  else (instr_Shape_j24 p0 (p0 == 33))))
noncomputable def instr_Shape_j25 (p0 : Int) (j58 : Bool) : Option (Int) :=
  instr_Shape_j1 p0 j58
noncomputable def instr_Shape  (p0 : Int) : Option (Int) :=
  if (p0 == 1) = true then (some 0)
  else (if (p0 == 2) = true then (instr_Shape_j1 p0 (p0 == 2))
  else (if (p0 == 20) = true then (instr_Shape_j25 p0 (p0 == 20))
  else (instr_Shape_j25 p0 (p0 == 21))))
theorem ok_instr_Shape (H : Heap) {p0 : Int} {ra : Int} (hF : instr_Shape p0 = some ra) : evS X 102 [.one .top (.int .i64 p0)] H = some (.one .top (.int .i64 ra), H) := by
 let E1 : EN := (3, vi p0)
 let S2 : St := ⟨[E1], [], H⟩
 let S3 : St := ⟨[], [], H⟩
 let S4 : St := ⟨[E1, (6, vb (p0 == 2))], [], H⟩
 let S5 : St := ⟨[E1, (10, vb (p0 == 3))], [], H⟩
 let S6 : St := ⟨[E1, (14, vb (p0 == 5))], [], H⟩
 let S7 : St := ⟨[E1, (18, vb (p0 == 4))], [], H⟩
 let S8 : St := ⟨[E1, (22, vb (p0 == 6))], [], H⟩
 let S9 : St := ⟨[E1, (35, vb (p0 == 24))], [], H⟩
 let S10 : St := ⟨[E1, (42, vb (p0 == 22))], [], H⟩
 let S11 : St := ⟨[E1, (35, vb (p0 == 25))], [], H⟩
 let S12 : St := ⟨[E1, (35, vb (p0 == 27))], [], H⟩
 let S13 : St := ⟨[E1, (35, vb (p0 == 29))], [], H⟩
 let S14 : St := ⟨[E1, (35, vb (p0 == 31))], [], H⟩
 let S15 : St := ⟨[E1, (22, vb (p0 == 7))], [], H⟩
 let S16 : St := ⟨[E1, (22, vb (p0 == 8))], [], H⟩
 let S17 : St := ⟨[E1, (22, vb (p0 == 9))], [], H⟩
 let S18 : St := ⟨[E1, (22, vb (p0 == 10))], [], H⟩
 let S19 : St := ⟨[E1, (22, vb (p0 == 11))], [], H⟩
 let S20 : St := ⟨[E1, (22, vb (p0 == 12))], [], H⟩
 let S21 : St := ⟨[E1, (22, vb (p0 == 13))], [], H⟩
 let S22 : St := ⟨[E1, (22, vb (p0 == 14))], [], H⟩
 let S23 : St := ⟨[E1, (22, vb (p0 == 15))], [], H⟩
 let S24 : St := ⟨[E1, (22, vb (p0 == 16))], [], H⟩
 let S25 : St := ⟨[E1, (18, vb (p0 == 34))], [], H⟩
 let S26 : St := ⟨[E1, (14, vb (p0 == 18))], [], H⟩
 let S27 : St := ⟨[E1, (10, vb (p0 == 30))], [], H⟩
 let S28 : St := ⟨[E1, (6, vb (p0 == 20))], [], H⟩
 refine yf Try.func102 true ⟨[(0, vi p0)], [], H⟩ ?_
 unfold instr_Shape at hF
 refine ysg ⟨[(0, vi p0)], [], H⟩ ?_
 refine w_seq ?_
 refine ysg S2 ?_
 refine w_block ?_
 refine ysg ⟨[E1, (4, vb (p0 == 1))], [], H⟩ ?_
 rcases if_inv hF with ⟨h1, hF⟩ | ⟨h1, hF⟩
 refine yT h1 S3 ?_
 refine ysg ⟨[(2, vi 0)], [], H⟩ ?_
 refine w_ret ?_
 obtain e0 := some1_inv hF
 subst e0
 exact yp (vi 0)
 refine yF h1 S2 ?_
 refine w_seq ?_
 refine ysg S4 ?_
 refine w_join (α := (Bool)) (fun x => (⟨[E1, (6, vb x)], [], H⟩ : St)) (fun x => instr_Shape_j1 p0 x = some ra) ?_ ?_
 rintro j2 hF
 replace hF : instr_Shape_j1 p0 j2 = some ra := hF
 unfold instr_Shape_j1 at hF
 rcases if_inv hF with ⟨h3, hF⟩ | ⟨h3, hF⟩
 refine yT h3 S3 ?_
 refine ysg ⟨[(2, vi 1)], [], H⟩ ?_
 refine w_ret ?_
 obtain e0 := some1_inv hF
 subst e0
 exact yp (vi 1)
 refine yF h3 S2 ?_
 refine w_seq ?_
 refine ysg S5 ?_
 refine w_join (α := (Bool)) (fun x => (⟨[E1, (10, vb x)], [], H⟩ : St)) (fun x => instr_Shape_j2 p0 x = some ra) ?_ ?_
 rintro j4 hF
 replace hF : instr_Shape_j2 p0 j4 = some ra := hF
 unfold instr_Shape_j2 at hF
 rcases if_inv hF with ⟨h5, hF⟩ | ⟨h5, hF⟩
 refine yT h5 S3 ?_
 refine ysg ⟨[(2, vi 2)], [], H⟩ ?_
 refine w_ret ?_
 obtain e0 := some1_inv hF
 subst e0
 exact yp (vi 2)
 refine yF h5 S2 ?_
 refine w_seq ?_
 refine ysg S6 ?_
 refine w_join (α := (Bool)) (fun x => (⟨[E1, (14, vb x)], [], H⟩ : St)) (fun x => instr_Shape_j3 p0 x = some ra) ?_ ?_
 rintro j6 hF
 replace hF : instr_Shape_j3 p0 j6 = some ra := hF
 unfold instr_Shape_j3 at hF
 rcases if_inv hF with ⟨h7, hF⟩ | ⟨h7, hF⟩
 refine yT h7 S3 ?_
 refine ysg ⟨[(2, vi 3)], [], H⟩ ?_
 refine w_ret ?_
 obtain e0 := some1_inv hF
 subst e0
 exact yp (vi 3)
 refine yF h7 S2 ?_
 refine w_seq ?_
 refine ysg S7 ?_
 refine w_join (α := (Bool)) (fun x => (⟨[E1, (18, vb x)], [], H⟩ : St)) (fun x => instr_Shape_j4 p0 x = some ra) ?_ ?_
 rintro j8 hF
 replace hF : instr_Shape_j4 p0 j8 = some ra := hF
 unfold instr_Shape_j4 at hF
 rcases if_inv hF with ⟨h9, hF⟩ | ⟨h9, hF⟩
 refine yT h9 S3 ?_
 refine ysg ⟨[(2, vi 4)], [], H⟩ ?_
 refine w_ret ?_
 obtain e0 := some1_inv hF
 subst e0
 exact yp (vi 4)
 refine yF h9 S2 ?_
 refine w_seq ?_
 refine ysg S8 ?_
 refine w_join (α := (Bool)) (fun x => (⟨[E1, (22, vb x)], [], H⟩ : St)) (fun x => instr_Shape_j5 p0 x = some ra) ?_ ?_
 rintro j10 hF
 replace hF : instr_Shape_j5 p0 j10 = some ra := hF
 unfold instr_Shape_j5 at hF
 rcases if_inv hF with ⟨h11, hF⟩ | ⟨h11, hF⟩
 refine yT h11 S3 ?_
 refine ysg ⟨[(2, vi 5)], [], H⟩ ?_
 refine w_ret ?_
 obtain e0 := some1_inv hF
 subst e0
 exact yp (vi 5)
 refine yF h11 S2 ?_
 refine w_seq ?_
 refine ysg S9 ?_
 refine w_join (α := (Bool)) (fun x => (⟨[E1, (35, vb x)], [], H⟩ : St)) (fun x => instr_Shape_j6 p0 x = some ra) ?_ ?_
 rintro j12 hF
 replace hF : instr_Shape_j6 p0 j12 = some ra := hF
 unfold instr_Shape_j6 at hF
 rcases if_inv hF with ⟨h13, hF⟩ | ⟨h13, hF⟩
 refine yT h13 S3 ?_
 refine ysg ⟨[(2, vi 6)], [], H⟩ ?_
 refine w_ret ?_
 obtain e0 := some1_inv hF
 subst e0
 exact yp (vi 6)
 refine yF h13 S2 ?_
 refine w_seq ?_
 refine ysg S10 ?_
 refine w_join (α := (Bool)) (fun x => (⟨[E1, (42, vb x)], [], H⟩ : St)) (fun x => instr_Shape_j7 p0 x = some ra) ?_ ?_
 rintro j14 hF
 replace hF : instr_Shape_j7 p0 j14 = some ra := hF
 unfold instr_Shape_j7 at hF
 rcases if_inv hF with ⟨h15, hF⟩ | ⟨h15, hF⟩
 refine yT h15 S3 ?_
 refine ysg ⟨[(2, vi 7)], [], H⟩ ?_
 refine w_ret ?_
 obtain e0 := some1_inv hF
 subst e0
 exact yp (vi 7)
 refine yF h15 S2 ?_
 refine ysg ⟨[(45, vb (p0 == 28))], [], H⟩ ?_
 rcases if_inv hF with ⟨h16, hF⟩ | ⟨h16, hF⟩
 refine yT h16 S3 ?_
 refine ysg ⟨[(2, vi 8)], [], H⟩ ?_
 refine w_ret ?_
 obtain e0 := some1_inv hF
 subst e0
 exact yp (vi 8)
 refine yF h16 S3 ?_
 refine w_skip ?_
 refine ysg ⟨[(2, vi (-1))], [], H⟩ ?_
 refine w_ret ?_
 obtain e0 := some1_inv hF
 subst e0
 exact yp (vi (-1))
 rcases if_inv hF with ⟨h17, hF⟩ | ⟨h17, hF⟩
 refine yT h17 S10 ?_
 refine w_skip ?_
 exact ⟨(p0 == 22), hF, (by kernel_rfl)⟩
 refine yF h17 S2 ?_
 refine yg ⟨[E1, (42, vb (p0 == 23))], [], H⟩ ?_
 exact ⟨(p0 == 23), hF, (by kernel_rfl)⟩
 rcases if_inv hF with ⟨h18, hF⟩ | ⟨h18, hF⟩
 refine yT h18 S9 ?_
 refine w_skip ?_
 exact ⟨(p0 == 24), hF, (by kernel_rfl)⟩
 refine yF h18 S2 ?_
 refine ysg S11 ?_
 refine w_join (α := (Bool)) (fun x => (⟨[E1, (35, vb x)], [], H⟩ : St)) (fun x => instr_Shape_j8 p0 x = some ra) ?_ ?_
 rintro j19 hF
 replace hF : instr_Shape_j8 p0 j19 = some ra := hF
 unfold instr_Shape_j8 at hF
 exact ⟨j19, hF, (by kernel_rfl)⟩
 rcases if_inv hF with ⟨h20, hF⟩ | ⟨h20, hF⟩
 refine yT h20 S11 ?_
 refine w_skip ?_
 exact ⟨(p0 == 25), hF, (by kernel_rfl)⟩
 refine yF h20 S2 ?_
 refine ysg S12 ?_
 refine w_join (α := (Bool)) (fun x => (⟨[E1, (35, vb x)], [], H⟩ : St)) (fun x => instr_Shape_j9 p0 x = some ra) ?_ ?_
 rintro j21 hF
 replace hF : instr_Shape_j9 p0 j21 = some ra := hF
 unfold instr_Shape_j9 at hF
 exact ⟨j21, hF, (by kernel_rfl)⟩
 rcases if_inv hF with ⟨h22, hF⟩ | ⟨h22, hF⟩
 refine yT h22 S12 ?_
 refine w_skip ?_
 exact ⟨(p0 == 27), hF, (by kernel_rfl)⟩
 refine yF h22 S2 ?_
 refine ysg S13 ?_
 refine w_join (α := (Bool)) (fun x => (⟨[E1, (35, vb x)], [], H⟩ : St)) (fun x => instr_Shape_j10 p0 x = some ra) ?_ ?_
 rintro j23 hF
 replace hF : instr_Shape_j10 p0 j23 = some ra := hF
 unfold instr_Shape_j10 at hF
 exact ⟨j23, hF, (by kernel_rfl)⟩
 rcases if_inv hF with ⟨h24, hF⟩ | ⟨h24, hF⟩
 refine yT h24 S13 ?_
 refine w_skip ?_
 exact ⟨(p0 == 29), hF, (by kernel_rfl)⟩
 refine yF h24 S2 ?_
 refine ysg S14 ?_
 refine w_join (α := (Bool)) (fun x => (⟨[E1, (35, vb x)], [], H⟩ : St)) (fun x => instr_Shape_j11 p0 x = some ra) ?_ ?_
 rintro j25 hF
 replace hF : instr_Shape_j11 p0 j25 = some ra := hF
 unfold instr_Shape_j11 at hF
 exact ⟨j25, hF, (by kernel_rfl)⟩
 rcases if_inv hF with ⟨h26, hF⟩ | ⟨h26, hF⟩
 refine yT h26 S14 ?_
 refine w_skip ?_
 exact ⟨(p0 == 31), hF, (by kernel_rfl)⟩
 refine yF h26 S2 ?_
 refine yg ⟨[E1, (35, vb (p0 == 32))], [], H⟩ ?_
 exact ⟨(p0 == 32), hF, (by kernel_rfl)⟩
 rcases if_inv hF with ⟨h27, hF⟩ | ⟨h27, hF⟩
 refine yT h27 S8 ?_
 refine w_skip ?_
 exact ⟨(p0 == 6), hF, (by kernel_rfl)⟩
 refine yF h27 S2 ?_
 refine ysg S15 ?_
 refine w_join (α := (Bool)) (fun x => (⟨[E1, (22, vb x)], [], H⟩ : St)) (fun x => instr_Shape_j12 p0 x = some ra) ?_ ?_
 rintro j28 hF
 replace hF : instr_Shape_j12 p0 j28 = some ra := hF
 unfold instr_Shape_j12 at hF
 exact ⟨j28, hF, (by kernel_rfl)⟩
 rcases if_inv hF with ⟨h29, hF⟩ | ⟨h29, hF⟩
 refine yT h29 S15 ?_
 refine w_skip ?_
 exact ⟨(p0 == 7), hF, (by kernel_rfl)⟩
 refine yF h29 S2 ?_
 refine ysg S16 ?_
 refine w_join (α := (Bool)) (fun x => (⟨[E1, (22, vb x)], [], H⟩ : St)) (fun x => instr_Shape_j13 p0 x = some ra) ?_ ?_
 rintro j30 hF
 replace hF : instr_Shape_j13 p0 j30 = some ra := hF
 unfold instr_Shape_j13 at hF
 exact ⟨j30, hF, (by kernel_rfl)⟩
 rcases if_inv hF with ⟨h31, hF⟩ | ⟨h31, hF⟩
 refine yT h31 S16 ?_
 refine w_skip ?_
 exact ⟨(p0 == 8), hF, (by kernel_rfl)⟩
 refine yF h31 S2 ?_
 refine ysg S17 ?_
 refine w_join (α := (Bool)) (fun x => (⟨[E1, (22, vb x)], [], H⟩ : St)) (fun x => instr_Shape_j14 p0 x = some ra) ?_ ?_
 rintro j32 hF
 replace hF : instr_Shape_j14 p0 j32 = some ra := hF
 unfold instr_Shape_j14 at hF
 exact ⟨j32, hF, (by kernel_rfl)⟩
 rcases if_inv hF with ⟨h33, hF⟩ | ⟨h33, hF⟩
 refine yT h33 S17 ?_
 refine w_skip ?_
 exact ⟨(p0 == 9), hF, (by kernel_rfl)⟩
 refine yF h33 S2 ?_
 refine ysg S18 ?_
 refine w_join (α := (Bool)) (fun x => (⟨[E1, (22, vb x)], [], H⟩ : St)) (fun x => instr_Shape_j15 p0 x = some ra) ?_ ?_
 rintro j34 hF
 replace hF : instr_Shape_j15 p0 j34 = some ra := hF
 unfold instr_Shape_j15 at hF
 exact ⟨j34, hF, (by kernel_rfl)⟩
 rcases if_inv hF with ⟨h35, hF⟩ | ⟨h35, hF⟩
 refine yT h35 S18 ?_
 refine w_skip ?_
 exact ⟨(p0 == 10), hF, (by kernel_rfl)⟩
 refine yF h35 S2 ?_
 refine ysg S19 ?_
 refine w_join (α := (Bool)) (fun x => (⟨[E1, (22, vb x)], [], H⟩ : St)) (fun x => instr_Shape_j16 p0 x = some ra) ?_ ?_
 rintro j36 hF
 replace hF : instr_Shape_j16 p0 j36 = some ra := hF
 unfold instr_Shape_j16 at hF
 exact ⟨j36, hF, (by kernel_rfl)⟩
 rcases if_inv hF with ⟨h37, hF⟩ | ⟨h37, hF⟩
 refine yT h37 S19 ?_
 refine w_skip ?_
 exact ⟨(p0 == 11), hF, (by kernel_rfl)⟩
 refine yF h37 S2 ?_
 refine ysg S20 ?_
 refine w_join (α := (Bool)) (fun x => (⟨[E1, (22, vb x)], [], H⟩ : St)) (fun x => instr_Shape_j17 p0 x = some ra) ?_ ?_
 rintro j38 hF
 replace hF : instr_Shape_j17 p0 j38 = some ra := hF
 unfold instr_Shape_j17 at hF
 exact ⟨j38, hF, (by kernel_rfl)⟩
 rcases if_inv hF with ⟨h39, hF⟩ | ⟨h39, hF⟩
 refine yT h39 S20 ?_
 refine w_skip ?_
 exact ⟨(p0 == 12), hF, (by kernel_rfl)⟩
 refine yF h39 S2 ?_
 refine ysg S21 ?_
 refine w_join (α := (Bool)) (fun x => (⟨[E1, (22, vb x)], [], H⟩ : St)) (fun x => instr_Shape_j18 p0 x = some ra) ?_ ?_
 rintro j40 hF
 replace hF : instr_Shape_j18 p0 j40 = some ra := hF
 unfold instr_Shape_j18 at hF
 exact ⟨j40, hF, (by kernel_rfl)⟩
 rcases if_inv hF with ⟨h41, hF⟩ | ⟨h41, hF⟩
 refine yT h41 S21 ?_
 refine w_skip ?_
 exact ⟨(p0 == 13), hF, (by kernel_rfl)⟩
 refine yF h41 S2 ?_
 refine ysg S22 ?_
 refine w_join (α := (Bool)) (fun x => (⟨[E1, (22, vb x)], [], H⟩ : St)) (fun x => instr_Shape_j19 p0 x = some ra) ?_ ?_
 rintro j42 hF
 replace hF : instr_Shape_j19 p0 j42 = some ra := hF
 unfold instr_Shape_j19 at hF
 exact ⟨j42, hF, (by kernel_rfl)⟩
 rcases if_inv hF with ⟨h43, hF⟩ | ⟨h43, hF⟩
 refine yT h43 S22 ?_
 refine w_skip ?_
 exact ⟨(p0 == 14), hF, (by kernel_rfl)⟩
 refine yF h43 S2 ?_
 refine ysg S23 ?_
 refine w_join (α := (Bool)) (fun x => (⟨[E1, (22, vb x)], [], H⟩ : St)) (fun x => instr_Shape_j20 p0 x = some ra) ?_ ?_
 rintro j44 hF
 replace hF : instr_Shape_j20 p0 j44 = some ra := hF
 unfold instr_Shape_j20 at hF
 exact ⟨j44, hF, (by kernel_rfl)⟩
 rcases if_inv hF with ⟨h45, hF⟩ | ⟨h45, hF⟩
 refine yT h45 S23 ?_
 refine w_skip ?_
 exact ⟨(p0 == 15), hF, (by kernel_rfl)⟩
 refine yF h45 S2 ?_
 refine ysg S24 ?_
 refine w_join (α := (Bool)) (fun x => (⟨[E1, (22, vb x)], [], H⟩ : St)) (fun x => instr_Shape_j21 p0 x = some ra) ?_ ?_
 rintro j46 hF
 replace hF : instr_Shape_j21 p0 j46 = some ra := hF
 unfold instr_Shape_j21 at hF
 exact ⟨j46, hF, (by kernel_rfl)⟩
 rcases if_inv hF with ⟨h47, hF⟩ | ⟨h47, hF⟩
 refine yT h47 S24 ?_
 refine w_skip ?_
 exact ⟨(p0 == 16), hF, (by kernel_rfl)⟩
 refine yF h47 S2 ?_
 refine yg ⟨[E1, (22, vb (p0 == 17))], [], H⟩ ?_
 exact ⟨(p0 == 17), hF, (by kernel_rfl)⟩
 rcases if_inv hF with ⟨h48, hF⟩ | ⟨h48, hF⟩
 refine yT h48 S7 ?_
 refine w_skip ?_
 exact ⟨(p0 == 4), hF, (by kernel_rfl)⟩
 refine yF h48 S2 ?_
 refine ysg S25 ?_
 refine w_join (α := (Bool)) (fun x => (⟨[E1, (18, vb x)], [], H⟩ : St)) (fun x => instr_Shape_j22 p0 x = some ra) ?_ ?_
 rintro j49 hF
 replace hF : instr_Shape_j22 p0 j49 = some ra := hF
 unfold instr_Shape_j22 at hF
 exact ⟨j49, hF, (by kernel_rfl)⟩
 rcases if_inv hF with ⟨h50, hF⟩ | ⟨h50, hF⟩
 refine yT h50 S25 ?_
 refine w_skip ?_
 exact ⟨(p0 == 34), hF, (by kernel_rfl)⟩
 refine yF h50 S2 ?_
 refine yg ⟨[E1, (18, vb (p0 == 26))], [], H⟩ ?_
 exact ⟨(p0 == 26), hF, (by kernel_rfl)⟩
 rcases if_inv hF with ⟨h51, hF⟩ | ⟨h51, hF⟩
 refine yT h51 S6 ?_
 refine w_skip ?_
 exact ⟨(p0 == 5), hF, (by kernel_rfl)⟩
 refine yF h51 S2 ?_
 refine ysg S26 ?_
 refine w_join (α := (Bool)) (fun x => (⟨[E1, (14, vb x)], [], H⟩ : St)) (fun x => instr_Shape_j23 p0 x = some ra) ?_ ?_
 rintro j52 hF
 replace hF : instr_Shape_j23 p0 j52 = some ra := hF
 unfold instr_Shape_j23 at hF
 exact ⟨j52, hF, (by kernel_rfl)⟩
 rcases if_inv hF with ⟨h53, hF⟩ | ⟨h53, hF⟩
 refine yT h53 S26 ?_
 refine w_skip ?_
 exact ⟨(p0 == 18), hF, (by kernel_rfl)⟩
 refine yF h53 S2 ?_
 refine yg ⟨[E1, (14, vb (p0 == 19))], [], H⟩ ?_
 exact ⟨(p0 == 19), hF, (by kernel_rfl)⟩
 rcases if_inv hF with ⟨h54, hF⟩ | ⟨h54, hF⟩
 refine yT h54 S5 ?_
 refine w_skip ?_
 exact ⟨(p0 == 3), hF, (by kernel_rfl)⟩
 refine yF h54 S2 ?_
 refine ysg S27 ?_
 refine w_join (α := (Bool)) (fun x => (⟨[E1, (10, vb x)], [], H⟩ : St)) (fun x => instr_Shape_j24 p0 x = some ra) ?_ ?_
 rintro j55 hF
 replace hF : instr_Shape_j24 p0 j55 = some ra := hF
 unfold instr_Shape_j24 at hF
 exact ⟨j55, hF, (by kernel_rfl)⟩
 rcases if_inv hF with ⟨h56, hF⟩ | ⟨h56, hF⟩
 refine yT h56 S27 ?_
 refine w_skip ?_
 exact ⟨(p0 == 30), hF, (by kernel_rfl)⟩
 refine yF h56 S2 ?_
 refine yg ⟨[E1, (10, vb (p0 == 33))], [], H⟩ ?_
 exact ⟨(p0 == 33), hF, (by kernel_rfl)⟩
 rcases if_inv hF with ⟨h57, hF⟩ | ⟨h57, hF⟩
 refine yT h57 S4 ?_
 refine w_skip ?_
 exact ⟨(p0 == 2), hF, (by kernel_rfl)⟩
 refine yF h57 S2 ?_
 refine ysg S28 ?_
 refine w_join (α := (Bool)) (fun x => (⟨[E1, (6, vb x)], [], H⟩ : St)) (fun x => instr_Shape_j25 p0 x = some ra) ?_ ?_
 rintro j58 hF
 replace hF : instr_Shape_j25 p0 j58 = some ra := hF
 unfold instr_Shape_j25 at hF
 exact ⟨j58, hF, (by kernel_rfl)⟩
 rcases if_inv hF with ⟨h59, hF⟩ | ⟨h59, hF⟩
 refine yT h59 S28 ?_
 refine w_skip ?_
 exact ⟨(p0 == 20), hF, (by kernel_rfl)⟩
 refine yF h59 S2 ?_
 refine yg ⟨[E1, (6, vb (p0 == 21))], [], H⟩ ?_
 exact ⟨(p0 == 21), hF, (by kernel_rfl)⟩
noncomputable def instr_reg  (p0 : Int) : Option (Bool) :=
  some ((decide (p0 ≥ 0)) && (decide (p0 < 16)))
theorem ok_instr_reg (H : Heap) {p0 : Int} {ra : Bool} (hF : instr_reg p0 = some ra) : evS X 132 [.one .top (.int .i64 p0)] H = some (.one .top (.bool ra), H) := by
 let E1 : EN := (0, vi p0)
 let E2 : EN := (3, vi p0)
 refine yf Try.func132 true ⟨[E1], [], H⟩ ?_
 unfold instr_reg at hF
 refine ysg ⟨[E1], [], H⟩ ?_
 refine yso ⟨[(2, vb ((decide (p0 ≥ 0)) && (decide (p0 < 16))))], [], H⟩ ?_ ?_
 refine yr 3 ⟨[E1, E2, (4, vb (decide (p0 ≥ 0))), (5, vb (decide (p0 ≥ 0)))], [], H⟩ ?_
 rcases bool_cases (decide (p0 ≥ 0)) with h1 | h1
 refine o_eq (congrArg (fun q => (⟨[E1, E2, (4, vb q), (5, vb q)], [], H⟩ : St)) h1) ?_
 refine yr 4 ⟨[E1, (2, vb (decide (p0 < 16))), E2, (4, vT), (5, vT), (6, vi p0), (7, vb (decide (p0 < 16))), (8, vb (decide (p0 < 16)))], [], H⟩ ?_
 refine o_eq2 (congrArg (fun q0 => (⟨[(2, vb q0)], [], H⟩ : St)) (show (decide (p0 < 16)) = ((decide (p0 ≥ 0)) && (decide (p0 < 16))) by simp [h1])) ?_
 exact ye
 refine o_eq (congrArg (fun q => (⟨[E1, E2, (4, vb q), (5, vb q)], [], H⟩ : St)) h1) ?_
 refine yr 4 ⟨[E1, (2, vF), E2, (4, vF), (5, vF), (6, vN), (7, vN), (8, vF)], [], H⟩ ?_
 refine o_eq2 (congrArg (fun q0 => (⟨[(2, vb q0)], [], H⟩ : St)) (show false = ((decide (p0 ≥ 0)) && (decide (p0 < 16))) by simp [h1])) ?_
 exact ye
 refine w_ret ?_
 obtain e0 := some1_inv hF
 subst e0
 exact yp (vb ((decide (p0 ≥ 0)) && (decide (p0 < 16))))
noncomputable def word_Fits  (p0 : Int) (p1 : Int) : Option (Bool) :=
  if (decide (p1 < 1)) = true then (some false)
  else (bind1 (shlI .i64 (-1) (IntKind.wrap .i64 ((if 40 < p1 then 40 else p1) - 1))) fun v2 =>
  bind1 (if (decide (p0 ≥ v2)) = true then (bind1 (shlI .i64 1 (IntKind.wrap .i64 ((if 40 < p1 then 40 else p1) - 1))) fun v5 =>
  some (decide (p0 < v5))) else (some false)) fun w7 =>
  some w7)
theorem ok_word_Fits (H : Heap) {p0 : Int} {p1 : Int} {ra : Bool} (hF : word_Fits p0 p1 = some ra) : evS X 67 [.one .top (.int .i64 p0), .one .top (.int .i64 p1)] H = some (.one .top (.bool ra), H) := by
 let E1 : EN := (0, vi p0)
 let E2 : EN := (5, vi (IntKind.wrap .i64 ((if 40 < p1 then 40 else p1) - 1)))
 let E3 : EN := (11, vi p0)
 let E4 : EN := (12, vi (IntKind.wrap .i64 ((if 40 < p1 then 40 else p1) - 1)))
 let E6 : EN := (16, vi p0)
 let E7 : EN := (17, vi (IntKind.wrap .i64 ((if 40 < p1 then 40 else p1) - 1)))
 let S8 : St := ⟨[E1, (1, vi p1)], [], H⟩
 let S9 : St := ⟨[E1, E2, E3, E4], [], H⟩
 refine yf Try.func67 true S8 ?_
 unfold word_Fits at hF
 refine ysg S8 ?_
 refine w_seq ?_
 refine ysg ⟨[E1, (1, vi p1), (7, vb (decide (p1 < 1)))], [], H⟩ ?_
 rcases if_inv hF with ⟨h1, hF⟩ | ⟨h1, hF⟩
 refine yT h1 ⟨[], [], H⟩ ?_
 refine ysg ⟨[(4, vF)], [], H⟩ ?_
 refine w_ret ?_
 obtain e0 := some1_inv hF
 subst e0
 exact yp (vF)
 refine yF h1 S8 ?_
 refine w_skip ?_
 refine ysg ⟨[E1, E2], [], H⟩ ?_
 refine w_seq ?_
 obtain ⟨v2, h3, hF⟩ := bind1_inv hF
 let E5 : EN := (13, vi v2)
 let S10 : St := ⟨[E1, E2, E3, E4, E5, (14, vT), (15, vT), E6, E7], [], H⟩
 obtain ⟨w7, hB8, hF⟩ := bind1_inv hF
 refine w_regO ⟨[(4, vb w7)], [], H⟩ ?_ ?_
 refine yr 2 S9 ?_
 refine o_one ⟨[E1, E2, E3, E4, E5], [], H⟩ (st_binI S9 .i64 h3 (ev_shl (P := X.P) (ty := 3) (x := (.const (.int .i64 (-1)))) (y := (.tmp 12)) (m := .top) (m' := .top) (k := .i64) (k' := .i64) (a := (-1)) (b := (IntKind.wrap .i64 ((if 40 < p1 then 40 else p1) - 1)))) (some 13) (by kernel_rfl) (by kernel_rfl)) ?_
 refine yr 2 ⟨[E1, E2, E3, E4, E5, (14, vb (decide (p0 ≥ v2))), (15, vb (decide (p0 ≥ v2)))], [], H⟩ ?_
 rcases if_inv hB8 with ⟨h4, hB8⟩ | ⟨h4, hB8⟩
 refine o_eq (congrArg (fun q => (⟨[E1, E2, E3, E4, E5, (14, vb q), (15, vb q)], [], H⟩ : St)) h4) ?_
 refine yr 2 S10 ?_
 obtain ⟨v5, h6, hB8⟩ := bind1_inv hB8
 refine o_one ⟨[E1, E2, E3, E4, E5, (14, vT), (15, vT), E6, E7, (18, vi v5)], [], H⟩ (st_binI S10 .i64 h6 (ev_shl (P := X.P) (ty := 3) (x := (.const (.int .i64 (1)))) (y := (.tmp 17)) (m := .top) (m' := .top) (k := .i64) (k' := .i64) (a := 1) (b := (IntKind.wrap .i64 ((if 40 < p1 then 40 else p1) - 1)))) (some 18) (by kernel_rfl) (by kernel_rfl)) ?_
 refine yr 3 ⟨[E1, (4, vb (decide (p0 < v5))), E2, E3, E4, E5, (14, vT), (15, vT), E6, E7, (18, vi v5), (19, vb (decide (p0 < v5))), (20, vb (decide (p0 < v5)))], [], H⟩ ?_
 cases hB8
 exact ye
 refine o_eq (congrArg (fun q => (⟨[E1, E2, E3, E4, E5, (14, vb q), (15, vb q)], [], H⟩ : St)) h4) ?_
 refine yr 6 ⟨[E1, (4, vF), E2, E3, E4, E5, (14, vF), (15, vF), (16, vN), (17, vN), (18, vN), (19, vN), (20, vF)], [], H⟩ ?_
 cases hB8
 exact ye
 refine w_ret ?_
 obtain e0 := some1_inv hF
 subst e0
 exact yp (vb w7)
noncomputable def word_Within  (p0 : Int) (p1 : Int) : Option (Bool) :=
  bind1 (if (decide (p1 ≥ 0)) = true then (if (decide (p0 ≥ 0)) = true then (bind1 (shlI .i64 1 (if 40 < p1 then 40 else p1)) fun v3 =>
  some (decide (p0 < v3))) else (some false)) else (some false)) fun w5 =>
  some w5
theorem ok_word_Within (H : Heap) {p0 : Int} {p1 : Int} {ra : Bool} (hF : word_Within p0 p1 = some ra) : evS X 138 [.one .top (.int .i64 p0), .one .top (.int .i64 p1)] H = some (.one .top (.bool ra), H) := by
 let E1 : EN := (0, vi p0)
 let E2 : EN := (1, vi p1)
 let E3 : EN := (5, vi p1)
 let E4 : EN := (6, vT)
 let E5 : EN := (7, vT)
 let E6 : EN := (8, vi p0)
 let E7 : EN := (12, vi p0)
 let E8 : EN := (13, vi p1)
 let E9 : EN := (14, vi (if 40 < p1 then 40 else p1))
 let S10 : St := ⟨[E1, E2, E3, E4, E5, E6, (9, vT), (10, vT), (11, vT), E7, E8, E9], [], H⟩
 refine yf Try.func138 true ⟨[E1, E2], [], H⟩ ?_
 unfold word_Within at hF
 refine ysg ⟨[E1, E2], [], H⟩ ?_
 refine w_seq ?_
 obtain ⟨w5, hB6, hF⟩ := bind1_inv hF
 refine w_regO ⟨[(4, vb w5)], [], H⟩ ?_ ?_
 refine yr 3 ⟨[E1, E2, E3, (6, vb (decide (p1 ≥ 0))), (7, vb (decide (p1 ≥ 0)))], [], H⟩ ?_
 rcases if_inv hB6 with ⟨h1, hB6⟩ | ⟨h1, hB6⟩
 refine o_eq (congrArg (fun q => (⟨[E1, E2, E3, (6, vb q), (7, vb q)], [], H⟩ : St)) h1) ?_
 refine yr 4 ⟨[E1, E2, E3, E4, E5, E6, (9, vb (decide (p0 ≥ 0))), (10, vb (decide (p0 ≥ 0))), (11, vb (decide (p0 ≥ 0)))], [], H⟩ ?_
 rcases if_inv hB6 with ⟨h2, hB6⟩ | ⟨h2, hB6⟩
 refine o_eq (congrArg (fun q => (⟨[E1, E2, E3, E4, E5, E6, (9, vb q), (10, vb q), (11, vb q)], [], H⟩ : St)) h2) ?_
 refine yr 3 S10 ?_
 obtain ⟨v3, h4, hB6⟩ := bind1_inv hB6
 refine o_one ⟨[E1, E2, E3, E4, E5, E6, (9, vT), (10, vT), (11, vT), E7, E8, E9, (15, vi v3)], [], H⟩ (st_binI S10 .i64 h4 (ev_shl (P := X.P) (ty := 3) (x := (.const (.int .i64 (1)))) (y := (.tmp 14)) (m := .top) (m' := .top) (k := .i64) (k' := .i64) (a := 1) (b := (if 40 < p1 then 40 else p1))) (some 15) (by kernel_rfl) (by kernel_rfl)) ?_
 refine yr 3 ⟨[E1, E2, (4, vb (decide (p0 < v3))), E3, E4, E5, E6, (9, vT), (10, vT), (11, vT), E7, E8, E9, (15, vi v3), (16, vb (decide (p0 < v3))), (17, vb (decide (p0 < v3)))], [], H⟩ ?_
 cases hB6
 exact ye
 refine o_eq (congrArg (fun q => (⟨[E1, E2, E3, E4, E5, E6, (9, vb q), (10, vb q), (11, vb q)], [], H⟩ : St)) h2) ?_
 refine yr 7 ⟨[E1, E2, (4, vF), E3, E4, E5, E6, (9, vF), (10, vF), (11, vF), (12, vN), (13, vN), (14, vN), (15, vN), (16, vN), (17, vF)], [], H⟩ ?_
 cases hB6
 exact ye
 refine o_eq (congrArg (fun q => (⟨[E1, E2, E3, (6, vb q), (7, vb q)], [], H⟩ : St)) h1) ?_
 refine yr 11 ⟨[E1, E2, (4, vF), E3, (6, vF), (7, vF), (8, vN), (9, vN), (10, vF), (11, vF), (12, vN), (13, vN), (14, vN), (15, vN), (16, vN), (17, vF)], [], H⟩ ?_
 cases hB6
 exact ye
 refine w_ret ?_
 obtain e0 := some1_inv hF
 subst e0
 exact yp (vb w5)
noncomputable def instr_imm_j2 (p0 : T_instr_Instr) (p1 : Int) (j5 : Bool) : Option (Bool) :=
  if j5 = true then (bind1 (word_Within p0.Imm_ 16) fun r7 =>
  some r7)
  else (if (p1 == 7) = true then (bind1 (word_Fits p0.Imm_ 24) fun r10 =>
  some r10)
  else (some (p0.Imm_ == 0)))
noncomputable def instr_imm_j3 (p0 : T_instr_Instr) (p1 : Int) (j13 : Bool) : Option (Bool) :=
  instr_imm_j2 p0 p1 j13
noncomputable def instr_imm_j1 (p0 : T_instr_Instr) (p1 : Int) (j1 : Bool) : Option (Bool) :=
  if j1 = true then (bind1 (word_Fits p0.Imm_ 16) fun r3 =>
  some r3)
  else (if (p1 == 2) = true then (instr_imm_j2 p0 p1 (p1 == 2))
  else (if (p1 == 4) = true then (instr_imm_j3 p0 p1 (p1 == 4))
  else (instr_imm_j3 p0 p1 (p1 == 8))))
noncomputable def instr_imm  (p0 : T_instr_Instr) (p1 : Int) : Option (Bool) :=
  if (p1 == 1) = true then (instr_imm_j1 p0 p1 (p1 == 1))
  else (instr_imm_j1 p0 p1 (p1 == 3))
theorem ok_instr_imm (H : Heap) {p0 : T_instr_Instr} {p1 : Int} {ra : Bool} (hF : instr_imm p0 p1 = some ra) : evS X 133 [.agg (m0_instr_Instr p0), .one .top (.int .i64 p1)] H = some (.one .top (.bool ra), H) := by
 let E1 : EN := (2, vl 2 0)
 let B2 : EB := (2, (m0_instr_Instr p0))
 let E3 : EN := (5, vi p1)
 let E4 : EN := (9, vl 2 4)
 let E5 : EN := (10, vi p0.Imm_)
 let E6 : EN := (16, vl 2 4)
 let E7 : EN := (17, vi p0.Imm_)
 let E8 : EN := (21, vl 2 4)
 let E9 : EN := (22, vi p0.Imm_)
 let S10 : St := ⟨[E1, E3], [B2], H⟩
 let S11 : St := ⟨[E1, E3, (6, vb (p1 == 1))], [B2], H⟩
 let S12 : St := ⟨[E1], [B2], H⟩
 let S13 : St := ⟨[E1, E4, E5], [B2], H⟩
 let S14 : St := ⟨[E1, E3, (12, vb (p1 == 2))], [B2], H⟩
 let S15 : St := ⟨[E1, E6, E7], [B2], H⟩
 let S16 : St := ⟨[E1, E8, E9], [B2], H⟩
 let S17 : St := ⟨[E1, E3, (12, vb (p1 == 4))], [B2], H⟩
 refine yf Try.func133 true ⟨[(0, .agg (m0_instr_Instr p0)), (1, vi p1)], [], H⟩ ?_
 unfold instr_imm at hF
 refine ysg ⟨[(1, vi p1), E1], [B2], H⟩ ?_
 refine w_seq ?_
 refine ysg S10 ?_
 refine w_block ?_
 refine w_seq ?_
 refine ysg S11 ?_
 refine w_join (α := (Bool)) (fun x => (⟨[E1, E3, (6, vb x)], [B2], H⟩ : St)) (fun x => instr_imm_j1 p0 p1 x = some ra) ?_ ?_
 rintro j1 hF
 replace hF : instr_imm_j1 p0 p1 j1 = some ra := hF
 unfold instr_imm_j1 at hF
 rcases if_inv hF with ⟨h2, hF⟩ | ⟨h2, hF⟩
 refine yT h2 S12 ?_
 refine w_seq ?_
 obtain ⟨r3, c4, hF⟩ := bind1_inv hF
 refine w_regO ⟨[(4, vb r3)], [], H⟩ ?_ ?_
 refine yr 2 S13 ?_
 refine o_one ⟨[E1, E4, E5, (11, vb r3)], [B2], H⟩ (yc (some 11) true false S13 (ok_word_Fits H c4)) ?_
 refine yr 1 ⟨[E1, (4, vb r3), E4, E5, (11, vb r3)], [B2], H⟩ ?_
 exact ye
 refine w_ret ?_
 obtain e0 := some1_inv hF
 subst e0
 exact yp (vb r3)
 refine yF h2 S10 ?_
 refine w_seq ?_
 refine ysg S14 ?_
 refine w_join (α := (Bool)) (fun x => (⟨[E1, E3, (12, vb x)], [B2], H⟩ : St)) (fun x => instr_imm_j2 p0 p1 x = some ra) ?_ ?_
 rintro j5 hF
 replace hF : instr_imm_j2 p0 p1 j5 = some ra := hF
 unfold instr_imm_j2 at hF
 rcases if_inv hF with ⟨h6, hF⟩ | ⟨h6, hF⟩
 refine yT h6 S12 ?_
 refine w_seq ?_
 obtain ⟨r7, c8, hF⟩ := bind1_inv hF
 refine w_regO ⟨[(4, vb r7)], [], H⟩ ?_ ?_
 refine yr 2 S15 ?_
 refine o_one ⟨[E1, E6, E7, (18, vb r7)], [B2], H⟩ (yc (some 18) true false S15 (ok_word_Within H c8)) ?_
 refine yr 1 ⟨[E1, (4, vb r7), E6, E7, (18, vb r7)], [B2], H⟩ ?_
 exact ye
 refine w_ret ?_
 obtain e0 := some1_inv hF
 subst e0
 exact yp (vb r7)
 refine yF h6 S10 ?_
 refine ysg ⟨[E1, (19, vb (p1 == 7))], [B2], H⟩ ?_
 rcases if_inv hF with ⟨h9, hF⟩ | ⟨h9, hF⟩
 refine yT h9 S12 ?_
 refine w_seq ?_
 obtain ⟨r10, c11, hF⟩ := bind1_inv hF
 refine w_regO ⟨[(4, vb r10)], [], H⟩ ?_ ?_
 refine yr 2 S16 ?_
 refine o_one ⟨[E1, E8, E9, (23, vb r10)], [B2], H⟩ (yc (some 23) true false S16 (ok_word_Fits H c11)) ?_
 refine yr 1 ⟨[E1, (4, vb r10), E8, E9, (23, vb r10)], [B2], H⟩ ?_
 exact ye
 refine w_ret ?_
 obtain e0 := some1_inv hF
 subst e0
 exact yp (vb r10)
 refine yF h9 S12 ?_
 refine w_skip ?_
 refine ysg ⟨[(4, vb (p0.Imm_ == 0))], [], H⟩ ?_
 refine w_ret ?_
 obtain e0 := some1_inv hF
 subst e0
 exact yp (vb (p0.Imm_ == 0))
 rcases if_inv hF with ⟨h12, hF⟩ | ⟨h12, hF⟩
 refine yT h12 S14 ?_
 refine w_skip ?_
 exact ⟨(p1 == 2), hF, (by kernel_rfl)⟩
 refine yF h12 S10 ?_
 refine ysg S17 ?_
 refine w_join (α := (Bool)) (fun x => (⟨[E1, E3, (12, vb x)], [B2], H⟩ : St)) (fun x => instr_imm_j3 p0 p1 x = some ra) ?_ ?_
 rintro j13 hF
 replace hF : instr_imm_j3 p0 p1 j13 = some ra := hF
 unfold instr_imm_j3 at hF
 exact ⟨j13, hF, (by kernel_rfl)⟩
 rcases if_inv hF with ⟨h14, hF⟩ | ⟨h14, hF⟩
 refine yT h14 S17 ?_
 refine w_skip ?_
 exact ⟨(p1 == 4), hF, (by kernel_rfl)⟩
 refine yF h14 S10 ?_
 refine yg ⟨[E1, E3, (12, vb (p1 == 8))], [B2], H⟩ ?_
 exact ⟨(p1 == 8), hF, (by kernel_rfl)⟩
 rcases if_inv hF with ⟨h15, hF⟩ | ⟨h15, hF⟩
 refine yT h15 S11 ?_
 refine w_skip ?_
 exact ⟨(p1 == 1), hF, (by kernel_rfl)⟩
 refine yF h15 S10 ?_
 refine yg ⟨[E1, E3, (6, vb (p1 == 3))], [B2], H⟩ ?_
 exact ⟨(p1 == 3), hF, (by kernel_rfl)⟩
noncomputable def instr_Check_j2 (j19 : Bool) : Option (Int) :=
  if (!j19) = true then (some 20)
  else (some 0)
noncomputable def instr_Check_j4 (j25 : Bool) : Option (Int) :=
  instr_Check_j2 j25
noncomputable def instr_Check_j5 (j28 : Bool) : Option (Int) :=
  instr_Check_j4 j28
noncomputable def instr_Check_j3 (p0 : T_instr_Instr) (r1 : Int) (j24 : Bool) : Option (Int) :=
  if j24 = true then (instr_Check_j4 ((p0.C_ == 0) && (p0.B_ == 0)))
  else (if (r1 == 5) = true then (instr_Check_j5 true)
  else (instr_Check_j5 (p0.C_ == 0)))
noncomputable def instr_Check_j6 (p0 : T_instr_Instr) (r1 : Int) (j31 : Bool) : Option (Int) :=
  instr_Check_j3 p0 r1 j31
noncomputable def instr_Check_j1 (p0 : T_instr_Instr) (r1 : Int) (j18 : Bool) : Option (Int) :=
  if j18 = true then (instr_Check_j2 ((p0.C_ == 0) && ((p0.A_ == 0) && (p0.B_ == 0))))
  else (if (r1 == 1) = true then (instr_Check_j3 p0 r1 (r1 == 1))
  else (if (r1 == 2) = true then (instr_Check_j6 p0 r1 (r1 == 2))
  else (instr_Check_j6 p0 r1 (r1 == 6))))
noncomputable def instr_Check_j7 (p0 : T_instr_Instr) (r1 : Int) (j34 : Bool) : Option (Int) :=
  instr_Check_j1 p0 r1 j34
noncomputable def instr_Check  (p0 : T_instr_Instr) : Option (Int) :=
  bind1 (instr_Shape p0.Op_) fun r1 =>
  if (decide (r1 < 0)) = true then (some 21)
  else (bind1 (instr_reg p0.A_) fun r4 =>
  bind1 (if (!r4) = true then (some true) else (bind1 (instr_reg p0.B_) fun r7 =>
  if (!r7) = true then (some true) else (bind1 (instr_reg p0.C_) fun r10 =>
  if (!r10) = true then (some true) else (bind1 (instr_imm p0 r1) fun r13 =>
  some (!r13))))) fun w15 =>
  if w15 = true then (some 20)
  else (if (r1 == 0) = true then (instr_Check_j1 p0 r1 (r1 == 0))
  else (if (r1 == 7) = true then (instr_Check_j7 p0 r1 (r1 == 7))
  else (instr_Check_j7 p0 r1 (r1 == 8)))))
theorem ok_instr_Check (H : Heap) {p0 : T_instr_Instr} {ra : Int} (hF : instr_Check p0 = some ra) : evS X 113 [.agg (m0_instr_Instr p0)] H = some (.one .top (.int .i64 ra), H) := by
 let E1 : EN := (1, vl 1 0)
 let B2 : EB := (1, (m0_instr_Instr p0))
 let E4 : EN := (5, vl 1 0)
 let E5 : EN := (6, vi p0.Op_)
 let E6 : EN := (10, vl 1 1)
 let E7 : EN := (11, vi p0.A_)
 let E9 : EN := (13, vF)
 let E10 : EN := (14, vF)
 let E11 : EN := (15, vl 1 2)
 let E12 : EN := (16, vi p0.B_)
 let E14 : EN := (18, vF)
 let E15 : EN := (19, vF)
 let E16 : EN := (20, vF)
 let E17 : EN := (21, vl 1 3)
 let E18 : EN := (22, vi p0.C_)
 let E20 : EN := (27, .agg (m0_instr_Instr p0))
 let E22 : EN := (4, vb (p0.C_ == 0))
 let E24 : EN := (42, vl 1 1)
 let E25 : EN := (43, vi p0.A_)
 let S27 : St := ⟨[E1, E4, E5], [B2], H⟩
 let S28 : St := ⟨[], [], H⟩
 refine yf Try.func113 true ⟨[(0, .agg (m0_instr_Instr p0))], [], H⟩ ?_
 unfold instr_Check at hF
 refine ysg ⟨[E1], [B2], H⟩ ?_
 refine w_seq ?_
 obtain ⟨r1, c2, hF⟩ := bind1_inv hF
 let E3 : EN := (3, vi r1)
 let E21 : EN := (28, vi r1)
 let E23 : EN := (35, vi r1)
 let S26 : St := ⟨[E1, E3], [B2], H⟩
 let S29 : St := ⟨[E1, E3, E6, E7], [B2], H⟩
 let S33 : St := ⟨[E1, E22, E23], [B2], H⟩
 let S34 : St := ⟨[E1, E22, E23, (36, vb (r1 == 0))], [B2], H⟩
 let S35 : St := ⟨[E1, E22, E23, (51, vb (r1 == 1))], [B2], H⟩
 let S36 : St := ⟨[E1, E22, E23, (51, vb (r1 == 2))], [B2], H⟩
 let S37 : St := ⟨[E1, E22, E23, (36, vb (r1 == 7))], [B2], H⟩
 refine w_regO S26 ?_ ?_
 refine yr 2 S27 ?_
 refine o_one ⟨[E1, E4, E5, (7, vi r1)], [B2], H⟩ (yc (some 7) true false S27 (ok_instr_Shape H c2)) ?_
 refine yr 1 ⟨[E1, E3, E4, E5, (7, vi r1)], [B2], H⟩ ?_
 exact ye
 refine w_seq ?_
 refine ysg ⟨[E1, E3, (9, vb (decide (r1 < 0)))], [B2], H⟩ ?_
 rcases if_inv hF with ⟨h3, hF⟩ | ⟨h3, hF⟩
 refine yT h3 S28 ?_
 refine ysg ⟨[(2, vi 21)], [], H⟩ ?_
 refine w_ret ?_
 obtain e0 := some1_inv hF
 subst e0
 exact yp (vi 21)
 refine yF h3 S26 ?_
 refine w_skip ?_
 refine w_seq ?_
 refine w_seq ?_
 obtain ⟨r4, c5, hF⟩ := bind1_inv hF
 let E8 : EN := (12, vb r4)
 let S30 : St := ⟨[E1, E3, E6, E7, E8, E9, E10, E11, E12], [B2], H⟩
 obtain ⟨w15, hB16, hF⟩ := bind1_inv hF
 refine w_regO ⟨[E1, E3, (31, vb w15)], [B2], H⟩ ?_ ?_
 refine yr 2 S29 ?_
 refine o_one ⟨[E1, E3, E6, E7, E8], [B2], H⟩ (yc (some 12) true false S29 (ok_instr_reg H c5)) ?_
 refine yr 2 ⟨[E1, E3, E6, E7, E8, (13, vb (!r4)), (14, vb (!r4))], [B2], H⟩ ?_
 rcases if_inv hB16 with ⟨h6, hB16⟩ | ⟨h6, hB16⟩
 refine o_eq (congrArg (fun q => (⟨[E1, E3, E6, E7, E8, (13, vb q), (14, vb q)], [B2], H⟩ : St)) h6) ?_
 refine yr 17 ⟨[E1, E3, E6, E7, E8, (13, vT), (14, vT), (15, vN), (16, vN), (17, vN), (18, vN), (19, vT), (20, vT), (21, vN), (22, vN), (23, vN), (24, vN), (25, vT), (26, vT), (27, vN), (28, vN), (29, vN), (30, vN), (31, vT)], [B2], H⟩ ?_
 cases hB16
 exact ye
 refine o_eq (congrArg (fun q => (⟨[E1, E3, E6, E7, E8, (13, vb q), (14, vb q)], [B2], H⟩ : St)) h6) ?_
 refine yr 2 S30 ?_
 obtain ⟨r7, c8, hB16⟩ := bind1_inv hB16
 let E13 : EN := (17, vb r7)
 let S31 : St := ⟨[E1, E3, E6, E7, E8, E9, E10, E11, E12, E13, E14, E15, E16, E17, E18], [B2], H⟩
 refine o_one ⟨[E1, E3, E6, E7, E8, E9, E10, E11, E12, E13], [B2], H⟩ (yc (some 17) true false S30 (ok_instr_reg H c8)) ?_
 refine yr 3 ⟨[E1, E3, E6, E7, E8, E9, E10, E11, E12, E13, (18, vb (!r7)), (19, vb (!r7)), (20, vb (!r7))], [B2], H⟩ ?_
 rcases if_inv hB16 with ⟨h9, hB16⟩ | ⟨h9, hB16⟩
 refine o_eq (congrArg (fun q => (⟨[E1, E3, E6, E7, E8, E9, E10, E11, E12, E13, (18, vb q), (19, vb q), (20, vb q)], [B2], H⟩ : St)) h9) ?_
 refine yr 11 ⟨[E1, E3, E6, E7, E8, E9, E10, E11, E12, E13, (18, vT), (19, vT), (20, vT), (21, vN), (22, vN), (23, vN), (24, vN), (25, vT), (26, vT), (27, vN), (28, vN), (29, vN), (30, vN), (31, vT)], [B2], H⟩ ?_
 cases hB16
 exact ye
 refine o_eq (congrArg (fun q => (⟨[E1, E3, E6, E7, E8, E9, E10, E11, E12, E13, (18, vb q), (19, vb q), (20, vb q)], [B2], H⟩ : St)) h9) ?_
 refine yr 2 S31 ?_
 obtain ⟨r10, c11, hB16⟩ := bind1_inv hB16
 let E19 : EN := (23, vb r10)
 let S32 : St := ⟨[E1, E3, E6, E7, E8, E9, E10, E11, E12, E13, E14, E15, E16, E17, E18, E19, (24, vF), (25, vF), (26, vF), E20, E21], [B2], H⟩
 refine o_one ⟨[E1, E3, E6, E7, E8, E9, E10, E11, E12, E13, E14, E15, E16, E17, E18, E19], [B2], H⟩ (yc (some 23) true false S31 (ok_instr_reg H c11)) ?_
 refine yr 3 ⟨[E1, E3, E6, E7, E8, E9, E10, E11, E12, E13, E14, E15, E16, E17, E18, E19, (24, vb (!r10)), (25, vb (!r10)), (26, vb (!r10))], [B2], H⟩ ?_
 rcases if_inv hB16 with ⟨h12, hB16⟩ | ⟨h12, hB16⟩
 refine o_eq (congrArg (fun q => (⟨[E1, E3, E6, E7, E8, E9, E10, E11, E12, E13, E14, E15, E16, E17, E18, E19, (24, vb q), (25, vb q), (26, vb q)], [B2], H⟩ : St)) h12) ?_
 refine yr 5 ⟨[E1, E3, E6, E7, E8, E9, E10, E11, E12, E13, E14, E15, E16, E17, E18, E19, (24, vT), (25, vT), (26, vT), (27, vN), (28, vN), (29, vN), (30, vN), (31, vT)], [B2], H⟩ ?_
 cases hB16
 exact ye
 refine o_eq (congrArg (fun q => (⟨[E1, E3, E6, E7, E8, E9, E10, E11, E12, E13, E14, E15, E16, E17, E18, E19, (24, vb q), (25, vb q), (26, vb q)], [B2], H⟩ : St)) h12) ?_
 refine yr 2 S32 ?_
 obtain ⟨r13, c14, hB16⟩ := bind1_inv hB16
 refine o_one ⟨[E1, E3, E6, E7, E8, E9, E10, E11, E12, E13, E14, E15, E16, E17, E18, E19, (24, vF), (25, vF), (26, vF), E20, E21, (29, vb r13)], [B2], H⟩ (yc (some 29) true false S32 (ok_instr_imm H c14)) ?_
 refine yr 2 ⟨[E1, E3, E6, E7, E8, E9, E10, E11, E12, E13, E14, E15, E16, E17, E18, E19, (24, vF), (25, vF), (26, vF), E20, E21, (29, vb r13), (30, vb (!r13)), (31, vb (!r13))], [B2], H⟩ ?_
 cases hB16
 exact ye
 rcases if_inv hF with ⟨h17, hF⟩ | ⟨h17, hF⟩
 refine yT h17 S28 ?_
 refine ysg ⟨[(2, vi 20)], [], H⟩ ?_
 refine w_ret ?_
 obtain e0 := some1_inv hF
 subst e0
 exact yp (vi 20)
 refine yF h17 S26 ?_
 refine w_skip ?_
 refine ysg ⟨[E1, E3, E22], [B2], H⟩ ?_
 refine w_seq ?_
 refine ysg S33 ?_
 refine w_block ?_
 refine w_seq ?_
 refine ysg S34 ?_
 refine w_join (α := (Bool)) (fun x => (⟨[E1, E22, E23, (36, vb x)], [B2], H⟩ : St)) (fun x => instr_Check_j1 p0 r1 x = some ra) ?_ ?_
 rintro j18 hF
 replace hF : instr_Check_j1 p0 r1 j18 = some ra := hF
 unfold instr_Check_j1 at hF
 refine w_join (α := (Bool)) (fun x => (⟨[(4, vb x)], [], H⟩ : St)) (fun x => instr_Check_j2 x = some ra) ?_ ?_
 rintro j19 hF
 replace hF : instr_Check_j2 j19 = some ra := hF
 unfold instr_Check_j2 at hF
 refine w_seq ?_
 refine ysg ⟨[(64, vb (!j19))], [], H⟩ ?_
 rcases if_inv hF with ⟨h20, hF⟩ | ⟨h20, hF⟩
 refine yT h20 S28 ?_
 refine ysg ⟨[(2, vi 20)], [], H⟩ ?_
 refine w_ret ?_
 obtain e0 := some1_inv hF
 subst e0
 exact yp (vi 20)
 refine yF h20 S28 ?_
 refine w_skip ?_
 refine ysg ⟨[(2, vi 0)], [], H⟩ ?_
 refine w_ret ?_
 obtain e0 := some1_inv hF
 subst e0
 exact yp (vi 0)
 rcases if_inv hF with ⟨h21, hF⟩ | ⟨h21, hF⟩
 refine yT h21 ⟨[E1, E22], [B2], H⟩ ?_
 refine w_regO ⟨[(4, vb ((p0.C_ == 0) && ((p0.A_ == 0) && (p0.B_ == 0))))], [], H⟩ ?_ ?_
 refine yr 2 ⟨[E1, E22, (40, vb (p0.C_ == 0)), (41, vb (p0.C_ == 0))], [B2], H⟩ ?_
 rcases bool_cases (p0.C_ == 0) with h22 | h22
 refine o_eq (congrArg (fun q => (⟨[E1, (4, vb q), (40, vb q), (41, vb q)], [B2], H⟩ : St)) h22) ?_
 refine yr 5 ⟨[E1, (4, vT), (40, vT), (41, vT), E24, E25, (44, vb (p0.A_ == 0)), (45, vb (p0.A_ == 0)), (46, vb (p0.A_ == 0))], [B2], H⟩ ?_
 rcases bool_cases (p0.A_ == 0) with h23 | h23
 refine o_eq (congrArg (fun q => (⟨[E1, (4, vT), (40, vT), (41, vT), E24, E25, (44, vb q), (45, vb q), (46, vb q)], [B2], H⟩ : St)) h23) ?_
 refine yr 5 ⟨[E1, (4, vb (p0.B_ == 0)), (40, vT), (41, vT), E24, E25, (44, vT), (45, vT), (46, vT), (47, vl 1 2), (48, vi p0.B_), (49, vb (p0.B_ == 0)), (50, vb (p0.B_ == 0))], [B2], H⟩ ?_
 refine o_eq2 (congrArg (fun q0 => (⟨[(4, vb q0)], [], H⟩ : St)) (show (p0.B_ == 0) = ((p0.C_ == 0) && ((p0.A_ == 0) && (p0.B_ == 0))) by simp [h22, h23])) ?_
 exact ye
 refine o_eq (congrArg (fun q => (⟨[E1, (4, vT), (40, vT), (41, vT), E24, E25, (44, vb q), (45, vb q), (46, vb q)], [B2], H⟩ : St)) h23) ?_
 refine yr 5 ⟨[E1, (4, vF), (40, vT), (41, vT), E24, E25, (44, vF), (45, vF), (46, vF), (47, vN), (48, vN), (49, vN), (50, vF)], [B2], H⟩ ?_
 refine o_eq2 (congrArg (fun q0 => (⟨[(4, vb q0)], [], H⟩ : St)) (show false = ((p0.C_ == 0) && ((p0.A_ == 0) && (p0.B_ == 0))) by simp [h22, h23])) ?_
 exact ye
 refine o_eq (congrArg (fun q => (⟨[E1, (4, vb q), (40, vb q), (41, vb q)], [B2], H⟩ : St)) h22) ?_
 refine yr 10 ⟨[E1, (4, vF), (40, vF), (41, vF), (42, vN), (43, vN), (44, vN), (45, vF), (46, vF), (47, vN), (48, vN), (49, vN), (50, vF)], [B2], H⟩ ?_
 refine o_eq2 (congrArg (fun q0 => (⟨[(4, vb q0)], [], H⟩ : St)) (show false = ((p0.C_ == 0) && ((p0.A_ == 0) && (p0.B_ == 0))) by simp [h22])) ?_
 exact ye
 exact ⟨((p0.C_ == 0) && ((p0.A_ == 0) && (p0.B_ == 0))), hF, (by kernel_rfl)⟩
 refine yF h21 S33 ?_
 refine w_seq ?_
 refine ysg S35 ?_
 refine w_join (α := (Bool)) (fun x => (⟨[E1, E22, E23, (51, vb x)], [B2], H⟩ : St)) (fun x => instr_Check_j3 p0 r1 x = some ra) ?_ ?_
 rintro j24 hF
 replace hF : instr_Check_j3 p0 r1 j24 = some ra := hF
 unfold instr_Check_j3 at hF
 refine w_join (α := (Bool)) (fun x => (⟨[(4, vb x)], [], H⟩ : St)) (fun x => instr_Check_j4 x = some ra) ?_ ?_
 rintro j25 hF
 replace hF : instr_Check_j4 j25 = some ra := hF
 unfold instr_Check_j4 at hF
 exact ⟨j25, hF, (by kernel_rfl)⟩
 rcases if_inv hF with ⟨h26, hF⟩ | ⟨h26, hF⟩
 refine yT h26 ⟨[E1, E22], [B2], H⟩ ?_
 refine w_regO ⟨[(4, vb ((p0.C_ == 0) && (p0.B_ == 0)))], [], H⟩ ?_ ?_
 refine yr 2 ⟨[E1, E22, (55, vb (p0.C_ == 0)), (56, vb (p0.C_ == 0))], [B2], H⟩ ?_
 rcases bool_cases (p0.C_ == 0) with h27 | h27
 refine o_eq (congrArg (fun q => (⟨[E1, (4, vb q), (55, vb q), (56, vb q)], [B2], H⟩ : St)) h27) ?_
 refine yr 5 ⟨[E1, (4, vb (p0.B_ == 0)), (55, vT), (56, vT), (57, vl 1 2), (58, vi p0.B_), (59, vb (p0.B_ == 0)), (60, vb (p0.B_ == 0))], [B2], H⟩ ?_
 refine o_eq2 (congrArg (fun q0 => (⟨[(4, vb q0)], [], H⟩ : St)) (show (p0.B_ == 0) = ((p0.C_ == 0) && (p0.B_ == 0)) by simp [h27])) ?_
 exact ye
 refine o_eq (congrArg (fun q => (⟨[E1, (4, vb q), (55, vb q), (56, vb q)], [B2], H⟩ : St)) h27) ?_
 refine yr 5 ⟨[E1, (4, vF), (55, vF), (56, vF), (57, vN), (58, vN), (59, vN), (60, vF)], [B2], H⟩ ?_
 refine o_eq2 (congrArg (fun q0 => (⟨[(4, vb q0)], [], H⟩ : St)) (show false = ((p0.C_ == 0) && (p0.B_ == 0)) by simp [h27])) ?_
 exact ye
 exact ⟨((p0.C_ == 0) && (p0.B_ == 0)), hF, (by kernel_rfl)⟩
 refine yF h26 ⟨[E22, E23], [], H⟩ ?_
 refine ysg ⟨[E22, (61, vb (r1 == 5))], [], H⟩ ?_
 refine w_join (α := (Bool)) (fun x => (⟨[(4, vb x)], [], H⟩ : St)) (fun x => instr_Check_j5 x = some ra) ?_ ?_
 rintro j28 hF
 replace hF : instr_Check_j5 j28 = some ra := hF
 unfold instr_Check_j5 at hF
 exact ⟨j28, hF, (by kernel_rfl)⟩
 rcases if_inv hF with ⟨h29, hF⟩ | ⟨h29, hF⟩
 refine yT h29 S28 ?_
 refine yg ⟨[(4, vT)], [], H⟩ ?_
 exact ⟨true, hF, (by kernel_rfl)⟩
 refine yF h29 ⟨[E22], [], H⟩ ?_
 refine w_skip ?_
 exact ⟨(p0.C_ == 0), hF, (by kernel_rfl)⟩
 rcases if_inv hF with ⟨h30, hF⟩ | ⟨h30, hF⟩
 refine yT h30 S35 ?_
 refine w_skip ?_
 exact ⟨(r1 == 1), hF, (by kernel_rfl)⟩
 refine yF h30 S33 ?_
 refine ysg S36 ?_
 refine w_join (α := (Bool)) (fun x => (⟨[E1, E22, E23, (51, vb x)], [B2], H⟩ : St)) (fun x => instr_Check_j6 p0 r1 x = some ra) ?_ ?_
 rintro j31 hF
 replace hF : instr_Check_j6 p0 r1 j31 = some ra := hF
 unfold instr_Check_j6 at hF
 exact ⟨j31, hF, (by kernel_rfl)⟩
 rcases if_inv hF with ⟨h32, hF⟩ | ⟨h32, hF⟩
 refine yT h32 S36 ?_
 refine w_skip ?_
 exact ⟨(r1 == 2), hF, (by kernel_rfl)⟩
 refine yF h32 S33 ?_
 refine yg ⟨[E1, E22, E23, (51, vb (r1 == 6))], [B2], H⟩ ?_
 exact ⟨(r1 == 6), hF, (by kernel_rfl)⟩
 rcases if_inv hF with ⟨h33, hF⟩ | ⟨h33, hF⟩
 refine yT h33 S34 ?_
 refine w_skip ?_
 exact ⟨(r1 == 0), hF, (by kernel_rfl)⟩
 refine yF h33 S33 ?_
 refine ysg S37 ?_
 refine w_join (α := (Bool)) (fun x => (⟨[E1, E22, E23, (36, vb x)], [B2], H⟩ : St)) (fun x => instr_Check_j7 p0 r1 x = some ra) ?_ ?_
 rintro j34 hF
 replace hF : instr_Check_j7 p0 r1 j34 = some ra := hF
 unfold instr_Check_j7 at hF
 exact ⟨j34, hF, (by kernel_rfl)⟩
 rcases if_inv hF with ⟨h35, hF⟩ | ⟨h35, hF⟩
 refine yT h35 S37 ?_
 refine w_skip ?_
 exact ⟨(r1 == 7), hF, (by kernel_rfl)⟩
 refine yF h35 S33 ?_
 refine yg ⟨[E1, E22, E23, (36, vb (r1 == 8))], [B2], H⟩ ?_
 exact ⟨(r1 == 8), hF, (by kernel_rfl)⟩
noncomputable def instr_Encode  (p0 : T_instr_Instr) : Option (Int × Int) :=
  bind1 (instr_Check p0) fun r1 =>
  if (r1 != 0) = true then (some (0, r1))
  else (bind1 (instr_Shape p0.Op_) fun r4 =>
  if (r4 == 7) = true then (some ((bitsOf .or .u32 (IntKind.wrap .u32 ((IntKind.wrap .u32 p0.Op_) * 2 ^ 24)) (bitsOf .and .u32 (IntKind.wrap .u32 p0.Imm_) 16777215)), 0))
  else (some ((bitsOf .or .u32 (bitsOf .or .u32 (bitsOf .or .u32 (bitsOf .or .u32 (IntKind.wrap .u32 ((IntKind.wrap .u32 p0.Op_) * 2 ^ 24)) (IntKind.wrap .u32 ((IntKind.wrap .u32 p0.A_) * 2 ^ 20))) (IntKind.wrap .u32 ((IntKind.wrap .u32 p0.B_) * 2 ^ 16))) (bitsOf .and .u32 (IntKind.wrap .u32 p0.Imm_) 65535)) (IntKind.wrap .u32 p0.C_)), 0)))
theorem ok_instr_Encode (H : Heap) {p0 : T_instr_Instr} {ra : Int} {rb : Int} (hF : instr_Encode p0 = some (ra, rb)) : evS X 88 [.agg (m0_instr_Instr p0)] H = some (.tup [.one .top (.int .u32 ra), .one .top (.int .i64 rb)], H) := by
 let E1 : EN := (1, vl 1 0)
 let B2 : EB := (1, (m0_instr_Instr p0))
 let E3 : EN := (6, .agg (m0_instr_Instr p0))
 let E4 : EN := (5, vu (IntKind.wrap .u32 ((IntKind.wrap .u32 p0.Op_) * 2 ^ 24)))
 let E5 : EN := (15, vl 1 0)
 let E6 : EN := (16, vi p0.Op_)
 let S7 : St := ⟨[E1, E4], [B2], H⟩
 let S8 : St := ⟨[E1, E4, E5, E6], [B2], H⟩
 refine yf Try.func88 true ⟨[(0, .agg (m0_instr_Instr p0))], [], H⟩ ?_
 unfold instr_Encode at hF
 refine ysg ⟨[E1], [B2], H⟩ ?_
 refine w_seq ?_
 refine w_seq ?_
 obtain ⟨r1, c2, hF⟩ := bind1_inv hF
 refine w_regO ⟨[E1, (4, vi r1)], [B2], H⟩ ?_ ?_
 refine yr 1 ⟨[E1, E3], [B2], H⟩ ?_
 refine o_one ⟨[E1, E3, (7, vi r1)], [B2], H⟩ (yc (some 7) true false (⟨[E1, E3], [B2], H⟩ : St) (ok_instr_Check H c2)) ?_
 refine yr 1 ⟨[E1, (4, vi r1), E3, (7, vi r1)], [B2], H⟩ ?_
 exact ye
 refine ysg ⟨[E1, (4, vi r1), (9, vb (r1 != 0))], [B2], H⟩ ?_
 rcases if_inv hF with ⟨h3, hF⟩ | ⟨h3, hF⟩
 refine yT h3 ⟨[(4, vi r1)], [], H⟩ ?_
 refine ysg ⟨[(2, vu 0), (3, vi r1)], [], H⟩ ?_
 refine w_ret ?_
 obtain ⟨e0, e1⟩ := some2_inv hF
 subst e0
 subst e1
 exact yp (.tup [vu 0, vi r1])
 refine yF h3 ⟨[E1], [B2], H⟩ ?_
 refine w_skip ?_
 refine ysg S7 ?_
 refine w_seq ?_
 refine w_seq ?_
 obtain ⟨r4, c5, hF⟩ := bind1_inv hF
 refine w_regO ⟨[E1, E4, (18, vb (r4 == 7))], [B2], H⟩ ?_ ?_
 refine yr 2 S8 ?_
 refine o_one ⟨[E1, E4, E5, E6, (17, vi r4)], [B2], H⟩ (yc (some 17) true false S8 (ok_instr_Shape H c5)) ?_
 refine yr 1 ⟨[E1, E4, E5, E6, (17, vi r4), (18, vb (r4 == 7))], [B2], H⟩ ?_
 exact ye
 rcases if_inv hF with ⟨h6, hF⟩ | ⟨h6, hF⟩
 refine yT h6 S7 ?_
 refine ysg ⟨[(2, vu (bitsOf .or .u32 (IntKind.wrap .u32 ((IntKind.wrap .u32 p0.Op_) * 2 ^ 24)) (bitsOf .and .u32 (IntKind.wrap .u32 p0.Imm_) 16777215))), (3, vi 0)], [], H⟩ ?_
 refine w_ret ?_
 obtain ⟨e0, e1⟩ := some2_inv hF
 subst e0
 subst e1
 exact yp (.tup [vu (bitsOf .or .u32 (IntKind.wrap .u32 ((IntKind.wrap .u32 p0.Op_) * 2 ^ 24)) (bitsOf .and .u32 (IntKind.wrap .u32 p0.Imm_) 16777215)), vi 0])
 refine yF h6 S7 ?_
 refine w_skip ?_
 refine ysg ⟨[(2, vu (bitsOf .or .u32 (bitsOf .or .u32 (bitsOf .or .u32 (bitsOf .or .u32 (IntKind.wrap .u32 ((IntKind.wrap .u32 p0.Op_) * 2 ^ 24)) (IntKind.wrap .u32 ((IntKind.wrap .u32 p0.A_) * 2 ^ 20))) (IntKind.wrap .u32 ((IntKind.wrap .u32 p0.B_) * 2 ^ 16))) (bitsOf .and .u32 (IntKind.wrap .u32 p0.Imm_) 65535)) (IntKind.wrap .u32 p0.C_))), (3, vi 0)], [], H⟩ ?_
 refine w_ret ?_
 obtain ⟨e0, e1⟩ := some2_inv hF
 subst e0
 subst e1
 exact yp (.tup [vu (bitsOf .or .u32 (bitsOf .or .u32 (bitsOf .or .u32 (bitsOf .or .u32 (IntKind.wrap .u32 ((IntKind.wrap .u32 p0.Op_) * 2 ^ 24)) (IntKind.wrap .u32 ((IntKind.wrap .u32 p0.A_) * 2 ^ 20))) (IntKind.wrap .u32 ((IntKind.wrap .u32 p0.B_) * 2 ^ 16))) (bitsOf .and .u32 (IntKind.wrap .u32 p0.Imm_) 65535)) (IntKind.wrap .u32 p0.C_)), vi 0])
noncomputable def emit_Code_Fail (H : Heap) (p0 : Ptr) (p1 : Int) : Option (Heap) :=
  (p0).bnd fun i1 o2 =>
  bind1 (get_emit_Code H i1 o2) fun x4 =>
  if (x4.err_ == 0) = true then (bnd (set_emit_Code H i1 o2 (T_emit_Code.mk x4.words_ x4.fixups_ x4.marks_ x4.pads_ x4.active_ x4.depth_ x4.most_ p1)) fun H7 =>
  some H7)
  else (some H)
theorem ok_emit_Code_Fail (H : Heap) {p0 : Ptr} {p1 : Int} {Hr : Heap} (hF : emit_Code_Fail H p0 p1 = some Hr) : evS X 69 [.one .top (Ptr.av p0), .one .top (.int .i64 p1)] H = some (.tup [], Hr) := by
 let E1 : EN := (1, vi p1)
 let E7 : EN := (10, vi p1)
 refine yf Try.func69 false ⟨[(0, vp p0), E1], [], H⟩ ?_
 unfold emit_Code_Fail at hF
 refine w_seq ?_
 obtain ⟨i1, o2, h3, hF⟩ := pbnd_inv hF
 let E2 : EN := (0, vo i1 o2)
 let E3 : EN := (4, vo i1 o2)
 let E4 : EN := (5, vo i1 o2)
 let E5 : EN := (6, vo i1 (o2 + 7))
 let E6 : EN := (9, vo i1 o2)
 let E8 : EN := (11, vo i1 o2)
 let E9 : EN := (12, vo i1 (o2 + 7))
 let S10 : St := ⟨[E2, E1, E3, E4, E5], [], H⟩
 let S11 : St := ⟨[E2, E1, E6, E7, E8, E9], [], H⟩
 obtain ⟨x4, V5, hF⟩ := bind1_inv hF
 replace V5 := hgetT_inv V5
 refine w_regO ⟨[E2, E1, (8, vb (x4.err_ == 0))], [], H⟩ ?_ ?_
 refine yr 1 ⟨[(0, vp p0), E1, (4, vp p0)], [], H⟩ ?_ (h := (by generalize p0 = qp0; cases qp0 <;> kernel_rfl))
 refine o_eq (congrArg (fun q => (⟨[(0, vp q), E1, (4, vp q)], [], H⟩ : St)) h3) ?_
 refine yr 1 ⟨[E2, E1, E3, E4], [], H⟩ ?_
 refine yr 1 S10 ?_
 refine o_one ⟨[E2, E1, E3, E4, E5, (7, vi x4.err_)], [], H⟩ (yd (X := X) S10 33 V5 7 1 false (vi x4.err_) (some 7)) ?_
 refine yr 1 ⟨[E2, E1, E3, E4, E5, (7, vi x4.err_), (8, vb (x4.err_ == 0))], [], H⟩ ?_
 exact ye
 rcases if_inv hF with ⟨h6, hF⟩ | ⟨h6, hF⟩
 refine yT h6 ⟨[E2, E1], [], H⟩ ?_
 obtain ⟨H7, h8, hF⟩ := bnd_inv hF
 have V9 : hget H7 i1 o2 8 = some (o_emit_Code (T_emit_Code.mk x4.words_ x4.fixups_ x4.marks_ x4.pads_ x4.active_ x4.depth_ x4.most_ p1)) := by rw [← h8]; exact hset_get V5 rfl
 refine w_regO ⟨[], [], H7⟩ ?_ ?_
 refine yr 4 S11 ?_
 refine o_one ⟨[E2, E1, E6, E7, E8, E9], [], (hset H i1 o2 [((.own 1), .sl 1 (List.map (eI .u32) x4.words_)), ((.own 1), .sl 4 (List.map e_api_Fixup x4.fixups_)), ((.own 1), .sl 2 (List.map e_api_Segment x4.marks_.list_)), ((.own 1), .sl 1 (List.map (eI .i64) x4.pads_)), ((.own 1), .sl 1 (List.map (eI .i64) x4.active_)), (.top, .int .i64 x4.depth_), (.top, .int .i64 x4.most_), (.top, .int .i64 p1)])⟩ (st_st (X := X) (lc := []) (h2 := (hset H i1 o2 [((.own 1), .sl 1 (List.map (eI .u32) x4.words_)), ((.own 1), .sl 4 (List.map e_api_Fixup x4.fixups_)), ((.own 1), .sl 2 (List.map e_api_Segment x4.marks_.list_)), ((.own 1), .sl 1 (List.map (eI .i64) x4.pads_)), ((.own 1), .sl 1 (List.map (eI .i64) x4.active_)), (.top, .int .i64 x4.depth_), (.top, .int .i64 x4.most_), (.top, .int .i64 p1)])) S11 33 V5 7 1 (vi p1) (by kernel_rfl) (by kernel_rfl) (by kernel_rfl) (by kernel_rfl) (by kernel_rfl) (by kernel_rfl) (hset_sub0 V5 (Nat.le_of_ble_eq_true rfl)) (by kernel_rfl)) ?_
 refine o_eq (congrArg (fun q => (⟨[E2, E1, E6, E7, E8, E9], [], q⟩ : St)) h8) ?_
 exact ye
 obtain e0 := some1_inv hF
 subst e0
 exact yi (vN)
 refine yF h6 ⟨[], [], H⟩ ?_
 refine w_skip ?_
 obtain e0 := some1_inv hF
 subst e0
 exact yi (vN)
noncomputable def emit_Code_Put_j1 (p0 : Ptr) (j4 : Int) (H5 : Heap) : Option (Heap × Int) :=
  (p0).bnd fun i6 o7 =>
  bind1 (get_emit_Code H5 i6 o7) fun x9 =>
  if (decide ((x9.words_.length : Int) ≥ 16384)) = true then (bind1 (emit_Code_Fail H5 (Ptr.at i6 o7) 242) fun H13 =>
  bind1 (get_emit_Code H13 i6 o7) fun x14 =>
  some (H13, (IntKind.wrap .i64 ((x14.words_.length : Int) - 1))))
  else (bind1 (app 4 x9.words_ ([j4] : List Int)) fun v16 =>
  bnd (set_emit_Code H5 i6 o7 (T_emit_Code.mk v16 x9.fixups_ x9.marks_ x9.pads_ x9.active_ x9.depth_ x9.most_ x9.err_)) fun H18 =>
  some (H18, (IntKind.wrap .i64 ((v16.length : Int) - 1))))
noncomputable def emit_Code_Put (H : Heap) (p0 : Ptr) (p1 : T_instr_Instr) : Option (Heap × Int) :=
  bind2 (instr_Encode p1) fun r1 r2 =>
  if (r2 != 0) = true then (bind1 (emit_Code_Fail H p0 r2) fun H23 =>
  bind2 (instr_Encode (T_instr_Instr.mk 1 0 0 0 0)) fun r24 r25 =>
  emit_Code_Put_j1 p0 r24 H23)
  else (emit_Code_Put_j1 p0 r1 H)
theorem ok_emit_Code_Put (H : Heap) {p0 : Ptr} {p1 : T_instr_Instr} {ra : Int} {Hr : Heap} (hF : emit_Code_Put H p0 p1 = some (Hr, ra)) : evS X 68 [.one .top (Ptr.av p0), .agg (m0_instr_Instr p1)] H = some (.one .top (.int .i64 ra), Hr) := by
 let E1 : Ptr → EN := fun z0 => (0, vp z0)
 let E2 : EN := (3, vl 3 0)
 let B3 : EB := (3, (m0_instr_Instr p1))
 let E5 : EN := (8, .agg (m0_instr_Instr p1))
 let E26 : EN := (40, .one .top .junk)
 let E27 : EN := (42, .one .top .junk)
 let E31 : EN := (43, .one .top .junk)
 let E38 : EN := (18, .agg ([(.top, .int .i64 1)] ++ List.replicate 4 (.top, .int .i64 0)))
 let S40 : Ptr → St := fun z0 => ⟨[(E1 z0), E2, E5], [B3], H⟩
 refine yf Try.func68 false ⟨[(E1 p0), (1, .agg (m0_instr_Instr p1))], [], H⟩ ?_
 unfold emit_Code_Put at hF
 refine ysg ⟨[(E1 p0), E2], [B3], H⟩ ?_ (h := (by generalize p0 = qp0; cases qp0 <;> kernel_rfl))
 refine w_seq ?_
 obtain ⟨r1, r2, c3, hF⟩ := bind2_inv hF
 let E4 : EN := (6, vi r2)
 let S49 : Ptr → St := fun z0 => ⟨[(E1 z0), E4, (14, vp z0), (15, vi r2)], [], H⟩
 refine w_regO ⟨[(E1 p0), (5, vu r1), E4], [], H⟩ ?_ ?_
 refine yr 1 (S40 p0) ?_ (h := (by generalize p0 = qp0; cases qp0 <;> kernel_rfl))
 refine o_one ⟨[(E1 p0), E2, E5, (9, .tup [vu r1, vi r2])], [B3], H⟩ (yc (some 9) true false (S40 p0) (ok_instr_Encode H c3) (hr := (by generalize p0 = qp0; cases qp0 <;> kernel_rfl)) (hs := (by generalize p0 = qp0; cases qp0 <;> kernel_rfl))) ?_
 refine yr 5 ⟨[(E1 p0), E2, (5, vu r1), E4, (7, .tup [vu r1, vi r2]), E5, (9, .tup [vu r1, vi r2]), (10, vu r1), (11, vi r2)], [B3], H⟩ ?_ (h := (by generalize p0 = qp0; cases qp0 <;> kernel_rfl))
 exact ye
 refine w_seq ?_
 refine ysg ⟨[(E1 p0), (5, vu r1), E4, (13, vb (r2 != 0))], [], H⟩ ?_ (h := (by generalize p0 = qp0; cases qp0 <;> kernel_rfl))
 refine w_join (α := (Int × Heap)) (fun x => (⟨[(E1 p0), (5, vu x.1)], [], x.2⟩ : St)) (fun x => emit_Code_Put_j1 p0 x.1 x.2 = some (Hr, ra)) ?_ ?_
 rintro ⟨j4, H5⟩ hF
 replace hF : emit_Code_Put_j1 p0 j4 H5 = some (Hr, ra) := hF
 let E7 : EN := (5, vu j4)
 let E25 : EN := (41, vu j4)
 unfold emit_Code_Put_j1 at hF
 refine w_seq ?_
 refine w_seq ?_
 obtain ⟨i6, o7, h8, hF⟩ := pbnd_inv hF
 let E6 : EN := (0, vo i6 o7)
 let E9 : EN := (22, vo i6 o7)
 let E10 : EN := (23, vo i6 o7)
 let E11 : EN := (24, vo i6 o7)
 let E15 : EN := (30, vo i6 o7)
 let E16 : EN := (31, vo i6 o7)
 let E17 : EN := (32, vo i6 o7)
 let E20 : EN := (36, vo i6 o7)
 let E21 : EN := (37, vo i6 o7)
 let E22 : EN := (38, vo i6 o7)
 let E23 : EN := (39, vo i6 o7)
 let E29 : EN := (44, vo i6 o7)
 let E30 : EN := (45, vo i6 o7)
 let E33 : EN := (46, vo i6 o7)
 let E34 : EN := (47, vo i6 o7)
 let E35 : EN := (48, vo i6 o7)
 let S41 : St := ⟨[E6, E7, E9, E10, E11], [], H5⟩
 let S43 : St := ⟨[E6, (28, vo i6 o7)], [], H5⟩
 let S46 : St := ⟨[E6, E7, E20, E21, E22, E23], [], H5⟩
 obtain ⟨x9, V10, hF⟩ := bind1_inv hF
 replace V10 := hgetT_inv V10
 let E8 : EN := (27, vb (decide ((x9.words_.length : Int) ≥ 16384)))
 let E12 : EN := (25, .one .bh (.sl 1 (List.map (eI .u32) x9.words_)))
 let E13 : EN := (26, vi (x9.words_.length : Int))
 let E24 : EN := (40, .one (.own 1) (.sl 1 (List.map (eI .u32) x9.words_)))
 let S42 : St := ⟨[E6, E7, E9, E10, E11, E12], [], H5⟩
 refine w_regO ⟨[E6, E7, E8], [], H5⟩ ?_ ?_
 refine yr 1 ⟨[(E1 p0), E7, (22, vp p0)], [], H5⟩ ?_ (h := (by generalize p0 = qp0; cases qp0 <;> kernel_rfl))
 refine o_eq (congrArg (fun q => (⟨[(0, vp q), E7, (22, vp q)], [], H5⟩ : St)) h8) ?_
 refine yr 1 ⟨[E6, E7, E9, E10], [], H5⟩ ?_
 refine yr 1 S41 ?_
 refine o_one S42 (yd (X := X) S41 42 V10 0 1 false (.one .bh (.sl 1 (List.map (eI .u32) x9.words_))) (some 25)) ?_
 refine o_one ⟨[E6, E7, E9, E10, E11, E12, E13], [], H5⟩ (yl S42 x9.words_ (eI .u32) (some 26)) ?_
 refine yr 1 ⟨[E6, E7, E9, E10, E11, E12, E13, E8], [], H5⟩ ?_
 exact ye
 rcases if_inv hF with ⟨h11, hF⟩ | ⟨h11, hF⟩
 refine yT h11 ⟨[E6], [], H5⟩ ?_
 refine w_seq ?_
 obtain ⟨H13, c12, hF⟩ := bind1_inv hF
 let S44 : St := ⟨[E6, E15, E16, E17], [], H13⟩
 refine w_regO ⟨[E6], [], H13⟩ ?_ ?_
 refine yr 1 S43 ?_
 refine o_one ⟨[E6, (28, vo i6 o7), (29, vN)], [], H13⟩ (yc (some 29) false false S43 (ok_emit_Code_Fail H5 c12)) ?_
 exact ye
 refine w_seq ?_
 obtain ⟨x14, V15, hF⟩ := bind1_inv hF
 replace V15 := hgetT_inv V15
 let E14 : EN := (4, vi (IntKind.wrap .i64 ((x14.words_.length : Int) - 1)))
 let E18 : EN := (33, .one .bh (.sl 1 (List.map (eI .u32) x14.words_)))
 let E19 : EN := (34, vi (x14.words_.length : Int))
 let S45 : St := ⟨[E6, E15, E16, E17, E18], [], H13⟩
 refine w_regO ⟨[E14], [], H13⟩ ?_ ?_
 refine yr 2 ⟨[E6, E15, E16], [], H13⟩ ?_
 refine yr 1 S44 ?_
 refine o_one S45 (yd (X := X) S44 42 V15 0 1 false (.one .bh (.sl 1 (List.map (eI .u32) x14.words_))) (some 33)) ?_
 refine o_one ⟨[E6, E15, E16, E17, E18, E19], [], H13⟩ (yl S45 x14.words_ (eI .u32) (some 34)) ?_
 refine yr 2 ⟨[E6, E14, E15, E16, E17, E18, E19, (35, vi (IntKind.wrap .i64 ((x14.words_.length : Int) - 1)))], [], H13⟩ ?_
 exact ye
 refine w_ret ?_
 obtain ⟨e0, e1⟩ := some2_inv hF
 subst e0
 subst e1
 exact yi (vi (IntKind.wrap .i64 ((x14.words_.length : Int) - 1)))
 refine yF h11 ⟨[E6, E7], [], H5⟩ ?_
 refine w_skip ?_
 refine w_seq ?_
 obtain ⟨v16, h17, hF⟩ := bind1_inv hF
 let E28 : EN := (43, .one (.own 1) (.sl 1 (List.map (eI .u32) v16)))
 let E32 : EN := (4, vi (IntKind.wrap .i64 ((v16.length : Int) - 1)))
 let E36 : EN := (49, .one .bh (.sl 1 (List.map (eI .u32) v16)))
 let E37 : EN := (50, vi (v16.length : Int))
 obtain ⟨H18, h19, hF⟩ := bnd_inv hF
 let S47 : St := ⟨[E6, E33, E34, E35], [], H18⟩
 let S48 : St := ⟨[E6, E33, E34, E35, E36], [], H18⟩
 have V20 : hget H18 i6 o7 8 = some (o_emit_Code (T_emit_Code.mk v16 x9.fixups_ x9.marks_ x9.pads_ x9.active_ x9.depth_ x9.most_ x9.err_)) := by rw [← h19]; exact hset_get V10 rfl
 refine w_regO ⟨[E6], [], H18⟩ ?_ ?_
 refine yr 4 S46 ?_
 refine o_one ⟨[E6, E7, E20, E21, E22, E23, E24], [], (hset H5 i6 o7 [(.top, .junk), ((.own 1), .sl 4 (List.map e_api_Fixup x9.fixups_)), ((.own 1), .sl 2 (List.map e_api_Segment x9.marks_.list_)), ((.own 1), .sl 1 (List.map (eI .i64) x9.pads_)), ((.own 1), .sl 1 (List.map (eI .i64) x9.active_)), (.top, .int .i64 x9.depth_), (.top, .int .i64 x9.most_), (.top, .int .i64 x9.err_)])⟩ (st_ldT (X := X) (h2 := (hset H5 i6 o7 [(.top, .junk), ((.own 1), .sl 4 (List.map e_api_Fixup x9.fixups_)), ((.own 1), .sl 2 (List.map e_api_Segment x9.marks_.list_)), ((.own 1), .sl 1 (List.map (eI .i64) x9.pads_)), ((.own 1), .sl 1 (List.map (eI .i64) x9.active_)), (.top, .int .i64 x9.depth_), (.top, .int .i64 x9.most_), (.top, .int .i64 x9.err_)])) S46 42 V10 0 1 false (.one (.own 1) (.sl 1 (List.map (eI .u32) x9.words_))) (some 40) (by kernel_rfl) (by kernel_rfl) (by kernel_rfl) (by kernel_rfl) (by kernel_rfl) (hset_sub0 (k := 0) V10 (Nat.le_of_ble_eq_true rfl)) (by kernel_rfl)) ?_
 refine yr 2 ⟨[E6, E7, E20, E21, E22, E23, E24, E25, (42, .one (.own 1) (.sl 1 (List.map (eI .u32) ([j4] : List Int))))], [], (hset H5 i6 o7 [(.top, .junk), ((.own 1), .sl 4 (List.map e_api_Fixup x9.fixups_)), ((.own 1), .sl 2 (List.map e_api_Segment x9.marks_.list_)), ((.own 1), .sl 1 (List.map (eI .i64) x9.pads_)), ((.own 1), .sl 1 (List.map (eI .i64) x9.active_)), (.top, .int .i64 x9.depth_), (.top, .int .i64 x9.most_), (.top, .int .i64 x9.err_)])⟩ ?_
 refine o_one ⟨[E6, E7, E20, E21, E22, E23, E26, E25, E27, E28], [], (hset H5 i6 o7 [(.top, .junk), ((.own 1), .sl 4 (List.map e_api_Fixup x9.fixups_)), ((.own 1), .sl 2 (List.map e_api_Segment x9.marks_.list_)), ((.own 1), .sl 1 (List.map (eI .i64) x9.pads_)), ((.own 1), .sl 1 (List.map (eI .i64) x9.active_)), (.top, .int .i64 x9.depth_), (.top, .int .i64 x9.most_), (.top, .int .i64 x9.err_)])⟩ (st_app (X := X) (⟨[E6, E7, E20, E21, E22, E23, E26, E25, E27], [], (hset H5 i6 o7 [(.top, .junk), ((.own 1), .sl 4 (List.map e_api_Fixup x9.fixups_)), ((.own 1), .sl 2 (List.map e_api_Segment x9.marks_.list_)), ((.own 1), .sl 1 (List.map (eI .i64) x9.pads_)), ((.own 1), .sl 1 (List.map (eI .i64) x9.active_)), (.top, .int .i64 x9.depth_), (.top, .int .i64 x9.most_), (.top, .int .i64 x9.err_)])⟩ : St) 4 h17 42 42 35 1 0 [(.top, .int .u32 0)] (.own 1) (eI .u32) 0 (some 43) (by kernel_rfl) (by kernel_rfl) (by kernel_rfl) (by kernel_rfl) (by kernel_rfl) (by kernel_rfl) (by kernel_rfl) (by kernel_rfl) (by kernel_rfl) (fun _ => rfl) (by kernel_rfl)) ?_
 refine yr 2 ⟨[E6, E7, E20, E21, E22, E23, E26, E25, E27, E28, E29, E30], [], (hset H5 i6 o7 [(.top, .junk), ((.own 1), .sl 4 (List.map e_api_Fixup x9.fixups_)), ((.own 1), .sl 2 (List.map e_api_Segment x9.marks_.list_)), ((.own 1), .sl 1 (List.map (eI .i64) x9.pads_)), ((.own 1), .sl 1 (List.map (eI .i64) x9.active_)), (.top, .int .i64 x9.depth_), (.top, .int .i64 x9.most_), (.top, .int .i64 x9.err_)])⟩ ?_
 refine o_one ⟨[E6, E7, E20, E21, E22, E23, E26, E25, E27, E31, E29, E30], [], (hset H5 i6 o7 [((.own 1), .sl 1 (List.map (eI .u32) v16)), ((.own 1), .sl 4 (List.map e_api_Fixup x9.fixups_)), ((.own 1), .sl 2 (List.map e_api_Segment x9.marks_.list_)), ((.own 1), .sl 1 (List.map (eI .i64) x9.pads_)), ((.own 1), .sl 1 (List.map (eI .i64) x9.active_)), (.top, .int .i64 x9.depth_), (.top, .int .i64 x9.most_), (.top, .int .i64 x9.err_)])⟩ (st_st (X := X) (lc := []) (h2 := (hset H5 i6 o7 [((.own 1), .sl 1 (List.map (eI .u32) v16)), ((.own 1), .sl 4 (List.map e_api_Fixup x9.fixups_)), ((.own 1), .sl 2 (List.map e_api_Segment x9.marks_.list_)), ((.own 1), .sl 1 (List.map (eI .i64) x9.pads_)), ((.own 1), .sl 1 (List.map (eI .i64) x9.active_)), (.top, .int .i64 x9.depth_), (.top, .int .i64 x9.most_), (.top, .int .i64 x9.err_)])) (⟨[E6, E7, E20, E21, E22, E23, E26, E25, E27, E31, E29, E30], [], (hset H5 i6 o7 [(.top, .junk), ((.own 1), .sl 4 (List.map e_api_Fixup x9.fixups_)), ((.own 1), .sl 2 (List.map e_api_Segment x9.marks_.list_)), ((.own 1), .sl 1 (List.map (eI .i64) x9.pads_)), ((.own 1), .sl 1 (List.map (eI .i64) x9.active_)), (.top, .int .i64 x9.depth_), (.top, .int .i64 x9.most_), (.top, .int .i64 x9.err_)])⟩ : St) 42 (hset_get V10 rfl) 0 1 (.one (.own 1) (.sl 1 (List.map (eI .u32) v16))) (by kernel_rfl) (by kernel_rfl) (by kernel_rfl) (by kernel_rfl) (by kernel_rfl) (by kernel_rfl) (hset_sub V10 rfl (Nat.le_of_ble_eq_true rfl)) (by kernel_rfl)) ?_
 refine o_eq (congrArg (fun q => (⟨[E6, E7, E20, E21, E22, E23, E26, E25, E27, E31, E29, E30], [], q⟩ : St)) h19) ?_
 exact ye
 refine yso ⟨[E32], [], H18⟩ ?_ ?_
 refine yr 3 S47 ?_
 refine o_one S48 (yd (X := X) S47 42 V20 0 1 false (.one .bh (.sl 1 (List.map (eI .u32) v16))) (some 49)) ?_
 refine o_one ⟨[E6, E33, E34, E35, E36, E37], [], H18⟩ (yl S48 v16 (eI .u32) (some 50)) ?_
 refine yr 2 ⟨[E6, E32, E33, E34, E35, E36, E37, (51, vi (IntKind.wrap .i64 ((v16.length : Int) - 1)))], [], H18⟩ ?_
 exact ye
 refine w_ret ?_
 obtain ⟨e0, e1⟩ := some2_inv hF
 subst e0
 subst e1
 exact yi (vi (IntKind.wrap .i64 ((v16.length : Int) - 1)))
 rcases if_inv hF with ⟨h21, hF⟩ | ⟨h21, hF⟩
 refine yT h21 ⟨[(E1 p0), E4], [], H⟩ ?_
 refine w_seq ?_
 obtain ⟨H23, c22, hF⟩ := bind1_inv hF
 let S50 : Ptr → St := fun z0 => ⟨[(E1 z0), E38], [], H23⟩
 refine w_regO ⟨[(E1 p0)], [], H23⟩ ?_ ?_
 refine yr 2 (S49 p0) ?_ (h := (by generalize p0 = qp0; cases qp0 <;> kernel_rfl))
 refine o_one ⟨[(E1 p0), E4, (14, vp p0), (15, vi r2), (16, vN)], [], H23⟩ (yc (some 16) false false (S49 p0) (ok_emit_Code_Fail H c22) (hr := (by generalize p0 = qp0; cases qp0 <;> kernel_rfl)) (hs := (by generalize p0 = qp0; cases qp0 <;> kernel_rfl))) ?_
 exact ye
 obtain ⟨r24, r25, c26, hF⟩ := bind2_inv hF
 let E39 : EN := (19, .tup [vu r24, vi r25])
 refine w_regO ⟨[(E1 p0), (5, vu r24)], [], H23⟩ ?_ ?_
 refine yr 1 (S50 p0) ?_ (h := (by generalize p0 = qp0; cases qp0 <;> kernel_rfl))
 refine o_one ⟨[(E1 p0), E38, E39], [], H23⟩ (yc (some 19) true false (S50 p0) (ok_instr_Encode H23 c26) (hr := (by generalize p0 = qp0; cases qp0 <;> kernel_rfl)) (hs := (by generalize p0 = qp0; cases qp0 <;> kernel_rfl))) ?_
 refine yr 4 ⟨[(E1 p0), (5, vu r24), (17, .tup [vu r24, vi r25]), E38, E39, (20, vu r24), (21, vi r25)], [], H23⟩ ?_ (h := (by generalize p0 = qp0; cases qp0 <;> kernel_rfl))
 exact ye
 exact ⟨(r24, H23), hF, (by kernel_rfl)⟩
 refine yF h21 ⟨[(E1 p0), (5, vu r1)], [], H⟩ ?_
 refine w_skip ?_
 exact ⟨(r1, H), hF, (by kernel_rfl)⟩
noncomputable def emit_Code_Reg (H : Heap) (p0 : Ptr) (p1 : Int) (p2 : Int) : Option (Heap × Int) :=
  bind2 (emit_Code_Put H p0 (T_instr_Instr.mk p1 p2 0 0 0)) fun H3 r1 =>
  some (H3, r1)
theorem ok_emit_Code_Reg (H : Heap) {p0 : Ptr} {p1 : Int} {p2 : Int} {ra : Int} {Hr : Heap} (hF : emit_Code_Reg H p0 p1 p2 = some (Hr, ra)) : evS X 66 [.one .top (Ptr.av p0), .one .top (.int .i64 p1), .one .top (.int .i64 p2)] H = some (.one .top (.int .i64 ra), Hr) := by
 let E1 : Ptr → EN := fun z0 => (0, vp z0)
 let E2 : EN := (1, vi p1)
 let E3 : EN := (2, vi p2)
 let E4 : EN := (10, .agg [(.top, .int .i64 p1), (.top, .int .i64 p2), (.top, .int .i64 0), (.top, .int .i64 0), (.top, .int .i64 0)])
 let S5 : Ptr → St := fun z0 => ⟨[(E1 z0), E2, E3], [], H⟩
 let S6 : Ptr → St := fun z0 => ⟨[(E1 z0), E2, E3, (7, vp z0), (8, vi p1), (9, vi p2), E4], [], H⟩
 refine yf Try.func66 false (S5 p0) ?_
 unfold emit_Code_Reg at hF
 refine ysg (S5 p0) ?_ (h := (by generalize p0 = qp0; cases qp0 <;> kernel_rfl))
 refine w_seq ?_
 obtain ⟨H3, r1, c2, hF⟩ := bind2_inv hF
 refine w_regO ⟨[(6, vi r1)], [], H3⟩ ?_ ?_
 refine yr 4 (S6 p0) ?_ (h := (by generalize p0 = qp0; cases qp0 <;> kernel_rfl))
 refine o_one ⟨[(E1 p0), E2, E3, (7, vp p0), (8, vi p1), (9, vi p2), E4, (11, vi r1)], [], H3⟩ (yc (some 11) false false (S6 p0) (ok_emit_Code_Put H c2) (hr := (by generalize p0 = qp0; cases qp0 <;> kernel_rfl)) (hs := (by generalize p0 = qp0; cases qp0 <;> kernel_rfl))) ?_
 refine yr 1 ⟨[(E1 p0), E2, E3, (6, vi r1), (7, vp p0), (8, vi p1), (9, vi p2), E4, (11, vi r1)], [], H3⟩ ?_ (h := (by generalize p0 = qp0; cases qp0 <;> kernel_rfl))
 exact ye
 refine w_ret ?_
 obtain ⟨e0, e1⟩ := some2_inv hF
 subst e0
 subst e1
 exact yi (vi r1)
noncomputable def law19_begun (H : Heap) : Option (Heap × Ptr) :=
  bind2 (item_New H) fun H3 r1 =>
  bind2 (if r1.isNil = true then (some (r1, true)) else ((r1).bnd fun i5 o6 =>
  bind1 (get_item_Gen H3 i5 o6) fun x8 =>
  some ((Ptr.at i5 o6), x8.Code_.isNil))) fun w10 w11 =>
  if w11 = true then (some (H3, Ptr.nil))
  else ((w10).bnd fun i14 o15 =>
  bind1 (get_item_Gen H3 i14 o15) fun x17 =>
  bind2 (emit_Code_Reg H3 x17.Code_ 1 0) fun H21 r19 =>
  some (H21, (Ptr.at i14 o15)))
theorem ok_law19_begun (H : Heap) {ra : Ptr} {Hr : Heap} (hF : law19_begun H = some (Hr, ra)) : evS X 15 [] H = some (.one .top (Ptr.av ra), Hr) := by
 let E3 : EN := (4, vF)
 let E4 : EN := (5, vF)
 let S15 : St := ⟨[], [], H⟩
 refine yf Try.func15 false S15 ?_
 unfold law19_begun at hF
 refine ysg S15 ?_
 refine w_seq ?_
 obtain ⟨H3, r1, c2, hF⟩ := bind2_inv hF
 let E1 : Ptr → EN := fun z0 => (1, vp z0)
 let E2 : Ptr → EN := fun z0 => (3, vp z0)
 let S16 : Ptr → St := fun z0 => ⟨[(E1 z0), (E2 z0)], [], H3⟩
 refine w_regO ⟨[(E1 r1)], [], H3⟩ ?_ ?_
 refine o_one ⟨[(2, vp r1)], [], H3⟩ (yc (some 2) false false S15 (ok_item_New H c2) (hr := (by generalize r1 = qp0; cases qp0 <;> kernel_rfl)) (hs := (by generalize r1 = qp0; cases qp0 <;> kernel_rfl))) ?_
 refine yr 1 ⟨[(E1 r1), (2, vp r1)], [], H3⟩ ?_ (h := (by generalize r1 = qp0; cases qp0 <;> kernel_rfl))
 exact ye
 refine w_seq ?_
 refine w_seq ?_
 obtain ⟨w10, w11, hB12, hF⟩ := bind2_inv hF
 refine w_regO ⟨[(1, vp w10), (11, vb w11)], [], H3⟩ ?_ ?_
 refine yr 1 (S16 r1) ?_ (h := (by generalize r1 = qp0; cases qp0 <;> kernel_rfl))
 refine o_one ⟨[(E1 r1), (E2 r1), (4, vb r1.isNil)], [], H3⟩ (st_bin (S16 r1) (nil_eql (P := X.P) (ty := 23) (x := (.tmp 3)) (y := (.const (.pointer none))) (m := .top) (m' := .top) r1 (by generalize r1 = qp0; cases qp0 <;> kernel_rfl) (by generalize r1 = qp0; cases qp0 <;> kernel_rfl)) rfl (some 4) (by generalize r1 = qp0; cases qp0 <;> kernel_rfl) (by generalize r1 = qp0; cases qp0 <;> kernel_rfl)) ?_
 refine yr 1 ⟨[(E1 r1), (E2 r1), (4, vb r1.isNil), (5, vb r1.isNil)], [], H3⟩ ?_ (h := (by generalize r1 = qp0; cases qp0 <;> kernel_rfl))
 rcases if_inv hB12 with ⟨h4, hB12⟩ | ⟨h4, hB12⟩
 refine o_eq (congrArg (fun q => (⟨[(E1 r1), (E2 r1), (4, vb q), (5, vb q)], [], H3⟩ : St)) h4) ?_
 refine yr 6 ⟨[(E1 r1), (E2 r1), (4, vT), (5, vT), (6, vN), (7, vN), (8, vN), (9, vN), (10, vN), (11, vT)], [], H3⟩ ?_ (h := (by generalize r1 = qp0; cases qp0 <;> kernel_rfl))
 cases hB12
 exact ye
 refine o_eq (congrArg (fun q => (⟨[(E1 r1), (E2 r1), (4, vb q), (5, vb q)], [], H3⟩ : St)) h4) ?_
 refine yr 1 ⟨[(E1 r1), (E2 r1), E3, E4, (6, vp r1)], [], H3⟩ ?_ (h := (by generalize r1 = qp0; cases qp0 <;> kernel_rfl))
 obtain ⟨i5, o6, h7, hB12⟩ := pbnd_inv hB12
 let E5 : EN := (1, vo i5 o6)
 let E6 : EN := (3, vo i5 o6)
 let E7 : EN := (6, vo i5 o6)
 let E8 : EN := (7, vo i5 o6)
 let E9 : EN := (8, vo i5 o6)
 let S17 : St := ⟨[E5, E6, E3, E4, E7, E8, E9], [], H3⟩
 refine o_eq (congrArg (fun q => (⟨[(1, vp q), (3, vp q), E3, E4, (6, vp q)], [], H3⟩ : St)) h7) ?_
 refine yr 1 ⟨[E5, E6, E3, E4, E7, E8], [], H3⟩ ?_
 obtain ⟨⟨x8a, x8b, ⟨x8c, x8d, x8e, x8f⟩⟩, V9, hB12⟩ := bind1_inv hB12
 replace V9 := hgetT_inv V9
 let E10 : Ptr → EN := fun z0 => (9, vp z0)
 let S18 : Ptr → St := fun z0 => ⟨[E5, E6, E3, E4, E7, E8, E9, (E10 z0)], [], H3⟩
 refine yr 1 S17 ?_
 refine o_one (S18 x8a) (yd (X := X) S17 26 V9 0 1 false (vp x8a) (some 9) (hs := (by generalize x8a = qp0; cases qp0 <;> kernel_rfl))) ?_
 refine o_one ⟨[E5, E6, E3, E4, E7, E8, E9, (E10 x8a), (10, vb x8a.isNil)], [], H3⟩ (st_bin (S18 x8a) (nil_eql (P := X.P) (ty := 26) (x := (.tmp 9)) (y := (.const (.pointer none))) (m := .top) (m' := .top) x8a (by generalize x8a = qp0; cases qp0 <;> kernel_rfl) (by generalize x8a = qp0; cases qp0 <;> kernel_rfl)) rfl (some 10) (by generalize x8a = qp0; cases qp0 <;> kernel_rfl) (by generalize x8a = qp0; cases qp0 <;> kernel_rfl)) ?_
 refine yr 1 ⟨[E5, E6, E3, E4, E7, E8, E9, (E10 x8a), (10, vb x8a.isNil), (11, vb x8a.isNil)], [], H3⟩ ?_ (h := (by generalize x8a = qp0; cases qp0 <;> kernel_rfl))
 cases hB12
 exact ye
 rcases if_inv hF with ⟨h13, hF⟩ | ⟨h13, hF⟩
 refine yT h13 ⟨[], [], H3⟩ ?_
 refine ysg ⟨[(0, .one .top .nilp)], [], H3⟩ ?_
 refine w_ret ?_
 obtain ⟨e0, e1⟩ := some2_inv hF
 subst e0
 subst e1
 exact yi (.one .top .nilp)
 refine yF h13 ⟨[(1, vp w10)], [], H3⟩ ?_
 refine w_skip ?_
 refine w_seq ?_
 obtain ⟨i14, o15, h16, hF⟩ := pbnd_inv hF
 let E11 : EN := (1, vo i14 o15)
 let E12 : EN := (12, vo i14 o15)
 let E13 : EN := (13, vo i14 o15)
 let E14 : EN := (14, vo i14 o15)
 let S19 : St := ⟨[E11, E12, E13, E14], [], H3⟩
 obtain ⟨⟨x17a, x17b, ⟨x17c, x17d, x17e, x17f⟩⟩, V18, hF⟩ := bind1_inv hF
 replace V18 := hgetT_inv V18
 let S20 : Ptr → St := fun z0 => ⟨[E11, E12, E13, E14, (15, vp z0)], [], H3⟩
 obtain ⟨H21, r19, c20, hF⟩ := bind2_inv hF
 refine w_regO ⟨[E11], [], H21⟩ ?_ ?_
 refine yr 1 ⟨[(1, vp w10), (12, vp w10)], [], H3⟩ ?_ (h := (by generalize w10 = qp0; cases qp0 <;> kernel_rfl))
 refine o_eq (congrArg (fun q => (⟨[(1, vp q), (12, vp q)], [], H3⟩ : St)) h16) ?_
 refine yr 1 ⟨[E11, E12, E13], [], H3⟩ ?_
 refine yr 1 S19 ?_
 refine o_one (S20 x17a) (yd (X := X) S19 26 V18 0 1 false (vp x17a) (some 15) (hs := (by generalize x17a = qp0; cases qp0 <;> kernel_rfl))) ?_
 refine o_one ⟨[E11, E12, E13, E14, (15, vp x17a), (16, vi r19)], [], H21⟩ (yc (some 16) false false (S20 x17a) (ok_emit_Code_Reg H3 c20) (hr := (by generalize x17a = qp0; cases qp0 <;> kernel_rfl)) (hs := (by generalize x17a = qp0; cases qp0 <;> kernel_rfl))) ?_
 exact ye
 refine ysg ⟨[(0, vo i14 o15)], [], H21⟩ ?_
 refine w_ret ?_
 obtain ⟨e0, e1⟩ := some2_inv hF
 subst e0
 subst e1
 exact yi (vo i14 o15)
noncomputable def emit_Code_Number (H : Heap) (p0 : Ptr) (p1 : Int) (p2 : Int) : Option (Heap) :=
  bind1 (word_Fits (IntKind.wrap .i64 p2) 16) fun r1 =>
  if r1 = true then (bind2 (emit_Code_Put H p0 (T_instr_Instr.mk 2 p1 0 0 (IntKind.wrap .i64 p2))) fun H6 r4 =>
  some H6)
  else (bind2 (emit_Code_Put H p0 (T_instr_Instr.mk 3 p1 0 0 (IntKind.wrap .i64 (Int.fdiv (IntKind.wrap .u32 p2) (2 ^ 16))))) fun H9 r7 =>
  bind2 (emit_Code_Put H9 p0 (T_instr_Instr.mk 4 p1 p1 0 (IntKind.wrap .i64 (bitsOf .and .u32 (IntKind.wrap .u32 p2) 65535)))) fun H12 r10 =>
  some H12)
theorem ok_emit_Code_Number (H : Heap) {p0 : Ptr} {p1 : Int} {p2 : Int} {Hr : Heap} (hF : emit_Code_Number H p0 p1 p2 = some Hr) : evS X 16 [.one .top (Ptr.av p0), .one .top (.int .i64 p1), .one .top (.int .i32 p2)] H = some (.tup [], Hr) := by
 let E1 : Ptr → EN := fun z0 => (0, vp z0)
 let E2 : EN := (1, vi p1)
 let E3 : EN := (2, .one .top (.int .i32 p2))
 let E4 : EN := (6, .one .top (.int .i32 p2))
 let E5 : EN := (7, vi (IntKind.wrap .i64 p2))
 let E6 : EN := (11, .one .top (.int .i32 p2))
 let E7 : EN := (12, vi (IntKind.wrap .i64 p2))
 let E8 : EN := (13, .agg [(.top, .int .i64 2), (.top, .int .i64 p1), (.top, .int .i64 0), (.top, .int .i64 0), (.top, .int .i64 (IntKind.wrap .i64 p2))])
 let E9 : EN := (17, .one .top (.int .i32 p2))
 let E10 : EN := (18, vu (IntKind.wrap .u32 p2))
 let E11 : EN := (19, vu (Int.fdiv (IntKind.wrap .u32 p2) (2 ^ 16)))
 let E12 : EN := (20, vi (IntKind.wrap .i64 (Int.fdiv (IntKind.wrap .u32 p2) (2 ^ 16))))
 let E13 : EN := (21, .agg [(.top, .int .i64 3), (.top, .int .i64 p1), (.top, .int .i64 0), (.top, .int .i64 0), (.top, .int .i64 (IntKind.wrap .i64 (Int.fdiv (IntKind.wrap .u32 p2) (2 ^ 16))))])
 let E14 : EN := (26, .one .top (.int .i32 p2))
 let E15 : EN := (27, vu (IntKind.wrap .u32 p2))
 let E16 : EN := (28, vu (bitsOf .and .u32 (IntKind.wrap .u32 p2) 65535))
 let E17 : EN := (29, vi (IntKind.wrap .i64 (bitsOf .and .u32 (IntKind.wrap .u32 p2) 65535)))
 let E18 : EN := (30, .agg [(.top, .int .i64 4), (.top, .int .i64 p1), (.top, .int .i64 p1), (.top, .int .i64 0), (.top, .int .i64 (IntKind.wrap .i64 (bitsOf .and .u32 (IntKind.wrap .u32 p2) 65535)))])
 let S19 : Ptr → St := fun z0 => ⟨[(E1 z0), E2, E3], [], H⟩
 let S20 : Ptr → St := fun z0 => ⟨[(E1 z0), E2, E3, E4, E5], [], H⟩
 let S21 : Ptr → St := fun z0 => ⟨[(E1 z0), E2, E3, (9, vp z0), (10, vi p1), E6, E7, E8], [], H⟩
 let S22 : Ptr → St := fun z0 => ⟨[(E1 z0), E2, E3, (15, vp z0), (16, vi p1), E9, E10, E11, E12, E13], [], H⟩
 refine yf Try.func16 false (S19 p0) ?_
 unfold emit_Code_Number at hF
 refine w_seq ?_
 refine w_seq ?_
 obtain ⟨r1, c2, hF⟩ := bind1_inv hF
 refine w_regO ⟨[(E1 p0), E2, E3, (8, vb r1)], [], H⟩ ?_ ?_
 refine yr 2 (S20 p0) ?_ (h := (by generalize p0 = qp0; cases qp0 <;> kernel_rfl))
 refine o_one ⟨[(E1 p0), E2, E3, E4, E5, (8, vb r1)], [], H⟩ (yc (some 8) true false (S20 p0) (ok_word_Fits H c2) (hr := (by generalize p0 = qp0; cases qp0 <;> kernel_rfl)) (hs := (by generalize p0 = qp0; cases qp0 <;> kernel_rfl))) ?_
 exact ye
 rcases if_inv hF with ⟨h3, hF⟩ | ⟨h3, hF⟩
 refine yT h3 (S19 p0) ?_
 refine w_seq ?_
 obtain ⟨H6, r4, c5, hF⟩ := bind2_inv hF
 refine w_regO ⟨[], [], H6⟩ ?_ ?_
 refine yr 5 (S21 p0) ?_ (h := (by generalize p0 = qp0; cases qp0 <;> kernel_rfl))
 refine o_one ⟨[(E1 p0), E2, E3, (9, vp p0), (10, vi p1), E6, E7, E8, (14, vi r4)], [], H6⟩ (yc (some 14) false false (S21 p0) (ok_emit_Code_Put H c5) (hr := (by generalize p0 = qp0; cases qp0 <;> kernel_rfl)) (hs := (by generalize p0 = qp0; cases qp0 <;> kernel_rfl))) ?_
 exact ye
 refine w_ret ?_
 obtain e0 := some1_inv hF
 subst e0
 exact yi (vN)
 refine yF h3 (S19 p0) ?_
 refine w_skip ?_
 refine w_seq ?_
 obtain ⟨H9, r7, c8, hF⟩ := bind2_inv hF
 let S23 : Ptr → St := fun z0 => ⟨[(E1 z0), E2, E3, (23, vp z0), (24, vi p1), (25, vi p1), E14, E15, E16, E17, E18], [], H9⟩
 refine w_regO ⟨[(E1 p0), E2, E3], [], H9⟩ ?_ ?_
 refine yr 7 (S22 p0) ?_ (h := (by generalize p0 = qp0; cases qp0 <;> kernel_rfl))
 refine o_one ⟨[(E1 p0), E2, E3, (15, vp p0), (16, vi p1), E9, E10, E11, E12, E13, (22, vi r7)], [], H9⟩ (yc (some 22) false false (S22 p0) (ok_emit_Code_Put H c8) (hr := (by generalize p0 = qp0; cases qp0 <;> kernel_rfl)) (hs := (by generalize p0 = qp0; cases qp0 <;> kernel_rfl))) ?_
 exact ye
 obtain ⟨H12, r10, c11, hF⟩ := bind2_inv hF
 refine w_regO ⟨[], [], H12⟩ ?_ ?_
 refine yr 8 (S23 p0) ?_ (h := (by generalize p0 = qp0; cases qp0 <;> kernel_rfl))
 refine o_one ⟨[(E1 p0), E2, E3, (23, vp p0), (24, vi p1), (25, vi p1), E14, E15, E16, E17, E18, (31, vi r10)], [], H12⟩ (yc (some 31) false false (S23 p0) (ok_emit_Code_Put H9 c11) (hr := (by generalize p0 = qp0; cases qp0 <;> kernel_rfl)) (hs := (by generalize p0 = qp0; cases qp0 <;> kernel_rfl))) ?_
 exact ye
 obtain e0 := some1_inv hF
 subst e0
 exact yi (vN)
noncomputable def emit_Code_Depth (H : Heap) (p0 : Ptr) : Option (Int) :=
  (p0).bnd fun i1 o2 =>
  bind1 (get_emit_Code H i1 o2) fun x4 =>
  some x4.depth_
theorem ok_emit_Code_Depth (H : Heap) {p0 : Ptr} {ra : Int} (hF : emit_Code_Depth H p0 = some ra) : evS X 27 [.one .top (Ptr.av p0)] H = some (.one .top (.int .i64 ra), H) := by
 refine yf Try.func27 true ⟨[(0, vp p0)], [], H⟩ ?_
 unfold emit_Code_Depth at hF
 refine ysg ⟨[(0, vp p0)], [], H⟩ ?_ (h := (by generalize p0 = qp0; cases qp0 <;> kernel_rfl))
 refine w_seq ?_
 obtain ⟨i1, o2, h3, hF⟩ := pbnd_inv hF
 let E1 : EN := (0, vo i1 o2)
 let E2 : EN := (3, vo i1 o2)
 let E3 : EN := (4, vo i1 o2)
 let E4 : EN := (5, vo i1 (o2 + 5))
 let S5 : St := ⟨[E1, E2, E3, E4], [], H⟩
 obtain ⟨x4, V5, hF⟩ := bind1_inv hF
 replace V5 := hgetT_inv V5
 refine w_regO ⟨[(2, vi x4.depth_)], [], H⟩ ?_ ?_
 refine yr 1 ⟨[(0, vp p0), (3, vp p0)], [], H⟩ ?_ (h := (by generalize p0 = qp0; cases qp0 <;> kernel_rfl))
 refine o_eq (congrArg (fun q => (⟨[(0, vp q), (3, vp q)], [], H⟩ : St)) h3) ?_
 refine yr 1 ⟨[E1, E2, E3], [], H⟩ ?_
 refine yr 1 S5 ?_
 refine o_one ⟨[E1, E2, E3, E4, (6, vi x4.depth_)], [], H⟩ (yd (X := X) S5 3 V5 5 1 false (vi x4.depth_) (some 6)) ?_
 refine yr 1 ⟨[E1, (2, vi x4.depth_), E2, E3, E4, (6, vi x4.depth_)], [], H⟩ ?_
 exact ye
 refine w_ret ?_
 obtain e0 := some1_inv hF
 subst e0
 exact yp (vi x4.depth_)
noncomputable def emit_Code_Sign (H : Heap) (p0 : Ptr) (p1 : Int) (p2 : Int) (p3 : Int) (p4 : Int) : Option (Heap × Int) :=
  bind2 (emit_Code_Put H p0 (T_instr_Instr.mk p1 p2 p3 0 p4)) fun H3 r1 =>
  some (H3, r1)
theorem ok_emit_Code_Sign (H : Heap) {p0 : Ptr} {p1 : Int} {p2 : Int} {p3 : Int} {p4 : Int} {ra : Int} {Hr : Heap} (hF : emit_Code_Sign H p0 p1 p2 p3 p4 = some (Hr, ra)) : evS X 44 [.one .top (Ptr.av p0), .one .top (.int .i64 p1), .one .top (.int .i64 p2), .one .top (.int .i64 p3), .one .top (.int .i64 p4)] H = some (.one .top (.int .i64 ra), Hr) := by
 let E1 : Ptr → EN := fun z0 => (0, vp z0)
 let E2 : EN := (1, vi p1)
 let E3 : EN := (2, vi p2)
 let E4 : EN := (3, vi p3)
 let E5 : EN := (4, vi p4)
 let E6 : Ptr → EN := fun z0 => (11, vp z0)
 let E7 : EN := (12, vi p1)
 let E8 : EN := (13, vi p2)
 let E9 : EN := (14, vi p3)
 let E10 : EN := (15, vi p4)
 let E11 : EN := (16, .agg [(.top, .int .i64 p1), (.top, .int .i64 p2), (.top, .int .i64 p3), (.top, .int .i64 0), (.top, .int .i64 p4)])
 let S12 : Ptr → St := fun z0 => ⟨[(E1 z0), E2, E3, E4, E5], [], H⟩
 let S13 : Ptr → St := fun z0 => ⟨[(E1 z0), E2, E3, E4, E5, (E6 z0), E7, E8, E9, E10, E11], [], H⟩
 refine yf Try.func44 false (S12 p0) ?_
 unfold emit_Code_Sign at hF
 refine ysg (S12 p0) ?_ (h := (by generalize p0 = qp0; cases qp0 <;> kernel_rfl))
 refine w_seq ?_
 obtain ⟨H3, r1, c2, hF⟩ := bind2_inv hF
 refine w_regO ⟨[(10, vi r1)], [], H3⟩ ?_ ?_
 refine yr 6 (S13 p0) ?_ (h := (by generalize p0 = qp0; cases qp0 <;> kernel_rfl))
 refine o_one ⟨[(E1 p0), E2, E3, E4, E5, (E6 p0), E7, E8, E9, E10, E11, (17, vi r1)], [], H3⟩ (yc (some 17) false false (S13 p0) (ok_emit_Code_Put H c2) (hr := (by generalize p0 = qp0; cases qp0 <;> kernel_rfl)) (hs := (by generalize p0 = qp0; cases qp0 <;> kernel_rfl))) ?_
 refine yr 1 ⟨[(E1 p0), E2, E3, E4, E5, (10, vi r1), (E6 p0), E7, E8, E9, E10, E11, (17, vi r1)], [], H3⟩ ?_ (h := (by generalize p0 = qp0; cases qp0 <;> kernel_rfl))
 exact ye
 refine w_ret ?_
 obtain ⟨e0, e1⟩ := some2_inv hF
 subst e0
 subst e1
 exact yi (vi r1)
noncomputable def emit_Code_Push (H : Heap) (p0 : Ptr) (p1 : Int) : Option (Heap) :=
  bind2 (emit_Code_Sign H p0 5 15 15 (-4)) fun H3 r1 =>
  bind2 (emit_Code_Sign H3 p0 19 p1 15 0) fun H6 r4 =>
  (p0).bnd fun i7 o8 =>
  bind1 (get_emit_Code H6 i7 o8) fun x10 =>
  bnd (set_emit_Code H6 i7 o8 (T_emit_Code.mk x10.words_ x10.fixups_ x10.marks_ x10.pads_ x10.active_ (IntKind.wrap .i64 (x10.depth_ + 1)) x10.most_ x10.err_)) fun H12 =>
  bnd (set_emit_Code H12 i7 o8 (T_emit_Code.mk x10.words_ x10.fixups_ x10.marks_ x10.pads_ x10.active_ (IntKind.wrap .i64 (x10.depth_ + 1)) (if (IntKind.wrap .i64 (x10.depth_ + 1)) > x10.most_ then (IntKind.wrap .i64 (x10.depth_ + 1)) else x10.most_) x10.err_)) fun H15 =>
  some H15
theorem ok_emit_Code_Push (H : Heap) {p0 : Ptr} {p1 : Int} {Hr : Heap} (hF : emit_Code_Push H p0 p1 = some Hr) : evS X 70 [.one .top (Ptr.av p0), .one .top (.int .i64 p1)] H = some (.tup [], Hr) := by
 let E1 : Ptr → EN := fun z0 => (0, vp z0)
 let E2 : EN := (1, vi p1)
 let S23 : Ptr → St := fun z0 => ⟨[(E1 z0), E2, (4, vp z0)], [], H⟩
 refine yf Try.func70 false ⟨[(E1 p0), E2], [], H⟩ ?_
 unfold emit_Code_Push at hF
 refine w_seq ?_
 obtain ⟨H3, r1, c2, hF⟩ := bind2_inv hF
 let S24 : Ptr → St := fun z0 => ⟨[(E1 z0), E2, (6, vp z0), (7, vi p1)], [], H3⟩
 refine w_regO ⟨[(E1 p0), E2], [], H3⟩ ?_ ?_
 refine yr 1 (S23 p0) ?_ (h := (by generalize p0 = qp0; cases qp0 <;> kernel_rfl))
 refine o_one ⟨[(E1 p0), E2, (4, vp p0), (5, vi r1)], [], H3⟩ (yc (some 5) false false (S23 p0) (ok_emit_Code_Sign H c2) (hr := (by generalize p0 = qp0; cases qp0 <;> kernel_rfl)) (hs := (by generalize p0 = qp0; cases qp0 <;> kernel_rfl))) ?_
 exact ye
 refine w_seq ?_
 obtain ⟨H6, r4, c5, hF⟩ := bind2_inv hF
 refine w_regO ⟨[(E1 p0)], [], H6⟩ ?_ ?_
 refine yr 2 (S24 p0) ?_ (h := (by generalize p0 = qp0; cases qp0 <;> kernel_rfl))
 refine o_one ⟨[(E1 p0), E2, (6, vp p0), (7, vi p1), (8, vi r4)], [], H6⟩ (yc (some 8) false false (S24 p0) (ok_emit_Code_Sign H3 c5) (hr := (by generalize p0 = qp0; cases qp0 <;> kernel_rfl)) (hs := (by generalize p0 = qp0; cases qp0 <;> kernel_rfl))) ?_
 exact ye
 refine w_seq ?_
 obtain ⟨i7, o8, h9, hF⟩ := pbnd_inv hF
 let E3 : EN := (0, vo i7 o8)
 let E4 : EN := (9, vo i7 o8)
 let E5 : EN := (10, vo i7 o8)
 let E6 : EN := (11, vo i7 (o8 + 5))
 let E9 : EN := (14, vo i7 o8)
 let E10 : EN := (15, vo i7 (o8 + 5))
 let E11 : EN := (16, vo i7 o8)
 let E12 : EN := (17, vo i7 o8)
 let E13 : EN := (18, vo i7 o8)
 let E14 : EN := (19, vo i7 (o8 + 6))
 let E15 : EN := (21, vo i7 o8)
 let E16 : EN := (22, vo i7 o8)
 let E17 : EN := (23, vo i7 (o8 + 5))
 let E21 : EN := (26, vo i7 o8)
 let E22 : EN := (27, vo i7 (o8 + 6))
 let S25 : St := ⟨[E3, E4, E5, E6], [], H6⟩
 obtain ⟨x10, V11, hF⟩ := bind1_inv hF
 replace V11 := hgetT_inv V11
 let E7 : EN := (12, vi x10.depth_)
 let E8 : EN := (13, vi (IntKind.wrap .i64 (x10.depth_ + 1)))
 let E18 : EN := (20, vi x10.most_)
 let E19 : EN := (24, vi (IntKind.wrap .i64 (x10.depth_ + 1)))
 let E20 : EN := (25, vi (if (IntKind.wrap .i64 (x10.depth_ + 1)) > x10.most_ then (IntKind.wrap .i64 (x10.depth_ + 1)) else x10.most_))
 let S26 : St := ⟨[E3, E4, E5, E6, E7, E8, E9, E10], [], H6⟩
 obtain ⟨H12, h13, hF⟩ := bnd_inv hF
 let S27 : St := ⟨[E3, E11, E12, E13, E14, E15, E16, E17], [], H12⟩
 let S28 : St := ⟨[E3, E11, E12, E13, E14, E18, E15, E16, E17, E19, E20, E21, E22], [], (hset H12 i7 o8 [((.own 1), .sl 1 (List.map (eI .u32) x10.words_)), ((.own 1), .sl 4 (List.map e_api_Fixup x10.fixups_)), ((.own 1), .sl 2 (List.map e_api_Segment x10.marks_.list_)), ((.own 1), .sl 1 (List.map (eI .i64) x10.pads_)), ((.own 1), .sl 1 (List.map (eI .i64) x10.active_)), (.top, .int .i64 (IntKind.wrap .i64 (x10.depth_ + 1))), (.top, .int .i64 (if (IntKind.wrap .i64 (x10.depth_ + 1)) > x10.most_ then (IntKind.wrap .i64 (x10.depth_ + 1)) else x10.most_)), (.top, .int .i64 x10.err_)])⟩
 let S29 : St := ⟨[E3, E11, E12, E13, E14, E18, E15, E16, E17], [], H12⟩
 let S30 : St := ⟨[E3, E11, E12, E13, E14, E18, E15, E16, E17, E19], [], H12⟩
 let S31 : St := ⟨[E3, E11, E12, E13, E14, E18, E15, E16, E17, E19, E20], [], H12⟩
 let S32 : St := ⟨[E3, E11, E12, E13, E14, E18, E15, E16, E17, E19, E20, E21], [], H12⟩
 let S33 : St := ⟨[E3, E11, E12, E13, E14, E18, E15, E16, E17, E19, E20, E21, E22], [], H12⟩
 let S34 : St := ⟨[E3, E11, E12, E13, E14, E15, E16, E17, E19], [], H12⟩
 have V14 : hget H12 i7 o8 8 = some (o_emit_Code (T_emit_Code.mk x10.words_ x10.fixups_ x10.marks_ x10.pads_ x10.active_ (IntKind.wrap .i64 (x10.depth_ + 1)) x10.most_ x10.err_)) := by rw [← h13]; exact hset_get V11 rfl
 refine w_regO ⟨[E3], [], H12⟩ ?_ ?_
 refine yr 1 ⟨[(E1 p0), (9, vp p0)], [], H6⟩ ?_ (h := (by generalize p0 = qp0; cases qp0 <;> kernel_rfl))
 refine o_eq (congrArg (fun q => (⟨[(0, vp q), (9, vp q)], [], H6⟩ : St)) h9) ?_
 refine yr 1 ⟨[E3, E4, E5], [], H6⟩ ?_
 refine yr 1 S25 ?_
 refine o_one ⟨[E3, E4, E5, E6, E7], [], H6⟩ (yd (X := X) S25 3 V11 5 1 false (vi x10.depth_) (some 12)) ?_
 refine yr 3 S26 ?_
 refine o_one ⟨[E3, E4, E5, E6, E7, E8, E9, E10], [], (hset H6 i7 o8 [((.own 1), .sl 1 (List.map (eI .u32) x10.words_)), ((.own 1), .sl 4 (List.map e_api_Fixup x10.fixups_)), ((.own 1), .sl 2 (List.map e_api_Segment x10.marks_.list_)), ((.own 1), .sl 1 (List.map (eI .i64) x10.pads_)), ((.own 1), .sl 1 (List.map (eI .i64) x10.active_)), (.top, .int .i64 (IntKind.wrap .i64 (x10.depth_ + 1))), (.top, .int .i64 x10.most_), (.top, .int .i64 x10.err_)])⟩ (st_st (X := X) (lc := []) (h2 := (hset H6 i7 o8 [((.own 1), .sl 1 (List.map (eI .u32) x10.words_)), ((.own 1), .sl 4 (List.map e_api_Fixup x10.fixups_)), ((.own 1), .sl 2 (List.map e_api_Segment x10.marks_.list_)), ((.own 1), .sl 1 (List.map (eI .i64) x10.pads_)), ((.own 1), .sl 1 (List.map (eI .i64) x10.active_)), (.top, .int .i64 (IntKind.wrap .i64 (x10.depth_ + 1))), (.top, .int .i64 x10.most_), (.top, .int .i64 x10.err_)])) S26 3 V11 5 1 (vi (IntKind.wrap .i64 (x10.depth_ + 1))) (by kernel_rfl) (by kernel_rfl) (by kernel_rfl) (by kernel_rfl) (by kernel_rfl) (by kernel_rfl) (hset_sub0 V11 (Nat.le_of_ble_eq_true rfl)) (by kernel_rfl)) ?_
 refine o_eq (congrArg (fun q => (⟨[E3, E4, E5, E6, E7, E8, E9, E10], [], q⟩ : St)) h13) ?_
 exact ye
 obtain ⟨H15, h16, hF⟩ := bnd_inv hF
 have V17 : hget H15 i7 o8 8 = some (o_emit_Code (T_emit_Code.mk x10.words_ x10.fixups_ x10.marks_ x10.pads_ x10.active_ (IntKind.wrap .i64 (x10.depth_ + 1)) (if (IntKind.wrap .i64 (x10.depth_ + 1)) > x10.most_ then (IntKind.wrap .i64 (x10.depth_ + 1)) else x10.most_) x10.err_)) := by rw [← h16]; exact hset_get V14 rfl
 let K35 : Sch := .take 9 (.take 10 (.take 11 (.last 12 .done)))
 refine w_regD (.take 0 (.take 1 (.take 2 (.take 3 (.take 5 (.take 6 (.take 7 (.alt 4 (.last 8 K35) (.last 8 (.last 4 K35)))))))))) (by kernel_rfl) (⟨[], [], H15⟩ : St) ?_ ?_
 refine ydk 7 S27 ?_
 refine q_in S28 ?_ ?_
 refine q_alt S29 (yd (X := X) S27 3 V14 6 1 false (vi x10.most_) (some 20)) ?_ ?_
 refine q_last S30 (yd (X := X) S29 3 V14 5 1 false (vi (IntKind.wrap .i64 (x10.depth_ + 1))) (some 24)) ?_
 refine yqt S31 ?_
 refine yqt S32 ?_
 refine yqt S33 ?_
 refine q_last S28 (st_st (X := X) (lc := []) (h2 := (hset H12 i7 o8 [((.own 1), .sl 1 (List.map (eI .u32) x10.words_)), ((.own 1), .sl 4 (List.map e_api_Fixup x10.fixups_)), ((.own 1), .sl 2 (List.map e_api_Segment x10.marks_.list_)), ((.own 1), .sl 1 (List.map (eI .i64) x10.pads_)), ((.own 1), .sl 1 (List.map (eI .i64) x10.active_)), (.top, .int .i64 (IntKind.wrap .i64 (x10.depth_ + 1))), (.top, .int .i64 (if (IntKind.wrap .i64 (x10.depth_ + 1)) > x10.most_ then (IntKind.wrap .i64 (x10.depth_ + 1)) else x10.most_)), (.top, .int .i64 x10.err_)])) S33 3 V14 6 1 (vi (if (IntKind.wrap .i64 (x10.depth_ + 1)) > x10.most_ then (IntKind.wrap .i64 (x10.depth_ + 1)) else x10.most_)) (by kernel_rfl) (by kernel_rfl) (by kernel_rfl) (by kernel_rfl) (by kernel_rfl) (by kernel_rfl) (hset_sub0 V14 (Nat.le_of_ble_eq_true rfl)) (by kernel_rfl)) ?_
 exact yqe
 refine q_last S34 (yd (X := X) S27 3 V14 5 1 false (vi (IntKind.wrap .i64 (x10.depth_ + 1))) (some 24)) ?_
 refine q_last S30 (yd (X := X) S34 3 V14 6 1 false (vi x10.most_) (some 20)) ?_
 refine yqt S31 ?_
 refine yqt S32 ?_
 refine yqt S33 ?_
 refine q_last S28 (st_st (X := X) (lc := []) (h2 := (hset H12 i7 o8 [((.own 1), .sl 1 (List.map (eI .u32) x10.words_)), ((.own 1), .sl 4 (List.map e_api_Fixup x10.fixups_)), ((.own 1), .sl 2 (List.map e_api_Segment x10.marks_.list_)), ((.own 1), .sl 1 (List.map (eI .i64) x10.pads_)), ((.own 1), .sl 1 (List.map (eI .i64) x10.active_)), (.top, .int .i64 (IntKind.wrap .i64 (x10.depth_ + 1))), (.top, .int .i64 (if (IntKind.wrap .i64 (x10.depth_ + 1)) > x10.most_ then (IntKind.wrap .i64 (x10.depth_ + 1)) else x10.most_)), (.top, .int .i64 x10.err_)])) S33 3 V14 6 1 (vi (if (IntKind.wrap .i64 (x10.depth_ + 1)) > x10.most_ then (IntKind.wrap .i64 (x10.depth_ + 1)) else x10.most_)) (by kernel_rfl) (by kernel_rfl) (by kernel_rfl) (by kernel_rfl) (by kernel_rfl) (by kernel_rfl) (hset_sub0 V14 (Nat.le_of_ble_eq_true rfl)) (by kernel_rfl)) ?_
 exact yqe
 refine eq_via (congrArg (fun q => (⟨[E3, E11, E12, E13, E14, E18, E15, E16, E17, E19, E20, E21, E22], [], q⟩ : St)) h16) ?_
 kernel_rfl
 obtain e0 := some1_inv hF
 subst e0
 exact yi (vN)
noncomputable def item_Gen_Wait_j1 (i1 : Nat) (o2 : Nat) (H8 : Heap) : Option (Heap) :=
  bind1 (get_item_Gen H8 i1 o2) fun x9 =>
  bind1 (emit_Code_Push H8 x9.Code_ 0) fun H12 =>
  some H12
noncomputable def item_Gen_Wait (H : Heap) (p0 : Ptr) : Option (Heap) :=
  (p0).bnd fun i1 o2 =>
  bind1 (get_item_Gen H i1 o2) fun x4 =>
  bind1 (emit_Code_Depth H x4.Code_) fun r6 =>
  if (decide (r6 ≥ 32)) = true then (bind1 (emit_Code_Fail H x4.Code_ 241) fun H15 =>
  item_Gen_Wait_j1 i1 o2 H15)
  else (item_Gen_Wait_j1 i1 o2 H)
theorem ok_item_Gen_Wait (H : Heap) {p0 : Ptr} {Hr : Heap} (hF : item_Gen_Wait H p0 = some Hr) : evS X 17 [.one .top (Ptr.av p0)] H = some (.tup [], Hr) := by
 refine yf Try.func17 false ⟨[(0, vp p0)], [], H⟩ ?_
 unfold item_Gen_Wait at hF
 refine w_seq ?_
 refine w_seq ?_
 obtain ⟨i1, o2, h3, hF⟩ := pbnd_inv hF
 let E1 : EN := (0, vo i1 o2)
 let E2 : EN := (2, vo i1 o2)
 let E3 : EN := (3, vo i1 o2)
 let E4 : EN := (4, vo i1 o2)
 let E6 : EN := (13, vo i1 o2)
 let E7 : EN := (14, vo i1 o2)
 let E8 : EN := (15, vo i1 o2)
 let E9 : EN := (8, vo i1 o2)
 let E10 : EN := (9, vo i1 o2)
 let E11 : EN := (10, vo i1 o2)
 let S12 : St := ⟨[E1, E2, E3, E4], [], H⟩
 let S16 : St := ⟨[E1, E9, E10, E11], [], H⟩
 obtain ⟨⟨x4a, x4b, ⟨x4c, x4d, x4e, x4f⟩⟩, V5, hF⟩ := bind1_inv hF
 replace V5 := hgetT_inv V5
 let E5 : Ptr → EN := fun z0 => (5, vp z0)
 let S13 : Ptr → St := fun z0 => ⟨[E1, E2, E3, E4, (E5 z0)], [], H⟩
 let S17 : Ptr → St := fun z0 => ⟨[E1, E9, E10, E11, (11, vp z0)], [], H⟩
 obtain ⟨r6, c7, hF⟩ := bind1_inv hF
 refine w_regO ⟨[E1, (7, vb (decide (r6 ≥ 32)))], [], H⟩ ?_ ?_
 refine yr 1 ⟨[(0, vp p0), (2, vp p0)], [], H⟩ ?_ (h := (by generalize p0 = qp0; cases qp0 <;> kernel_rfl))
 refine o_eq (congrArg (fun q => (⟨[(0, vp q), (2, vp q)], [], H⟩ : St)) h3) ?_
 refine yr 1 ⟨[E1, E2, E3], [], H⟩ ?_
 refine yr 1 S12 ?_
 refine o_one (S13 x4a) (yd (X := X) S12 26 V5 0 1 false (vp x4a) (some 5) (hs := (by generalize x4a = qp0; cases qp0 <;> kernel_rfl))) ?_
 refine o_one ⟨[E1, E2, E3, E4, (E5 x4a), (6, vi r6)], [], H⟩ (yc (some 6) true false (S13 x4a) (ok_emit_Code_Depth H c7) (hr := (by generalize x4a = qp0; cases qp0 <;> kernel_rfl)) (hs := (by generalize x4a = qp0; cases qp0 <;> kernel_rfl))) ?_
 refine yr 1 ⟨[E1, E2, E3, E4, (E5 x4a), (6, vi r6), (7, vb (decide (r6 ≥ 32)))], [], H⟩ ?_ (h := (by generalize x4a = qp0; cases qp0 <;> kernel_rfl))
 exact ye
 refine w_join (α := (Heap)) (fun x => (⟨[E1], [], x⟩ : St)) (fun x => item_Gen_Wait_j1 i1 o2 x = some Hr) ?_ ?_
 rintro H8 hF
 replace hF : item_Gen_Wait_j1 i1 o2 H8 = some Hr := hF
 let S14 : St := ⟨[E1, E6, E7, E8], [], H8⟩
 unfold item_Gen_Wait_j1 at hF
 obtain ⟨⟨x9a, x9b, ⟨x9c, x9d, x9e, x9f⟩⟩, V10, hF⟩ := bind1_inv hF
 replace V10 := hgetT_inv V10
 let S15 : Ptr → St := fun z0 => ⟨[E1, E6, E7, E8, (16, vp z0)], [], H8⟩
 obtain ⟨H12, c11, hF⟩ := bind1_inv hF
 refine w_regO ⟨[], [], H12⟩ ?_ ?_
 refine yr 2 ⟨[E1, E6, E7], [], H8⟩ ?_
 refine yr 1 S14 ?_
 refine o_one (S15 x9a) (yd (X := X) S14 26 V10 0 1 false (vp x9a) (some 16) (hs := (by generalize x9a = qp0; cases qp0 <;> kernel_rfl))) ?_
 refine o_one ⟨[E1, E6, E7, E8, (16, vp x9a), (17, vN)], [], H12⟩ (yc (some 17) false false (S15 x9a) (ok_emit_Code_Push H8 c11) (hr := (by generalize x9a = qp0; cases qp0 <;> kernel_rfl)) (hs := (by generalize x9a = qp0; cases qp0 <;> kernel_rfl))) ?_
 exact ye
 obtain e0 := some1_inv hF
 subst e0
 exact yi (vN)
 rcases if_inv hF with ⟨h13, hF⟩ | ⟨h13, hF⟩
 refine yT h13 ⟨[E1], [], H⟩ ?_
 obtain ⟨H15, c14, hF⟩ := bind1_inv hF
 refine w_regO ⟨[E1], [], H15⟩ ?_ ?_
 refine yr 3 S16 ?_
 refine o_one (S17 x4a) (yd (X := X) S16 26 V5 0 1 false (vp x4a) (some 11) (hs := (by generalize x4a = qp0; cases qp0 <;> kernel_rfl))) ?_
 refine o_one ⟨[E1, E9, E10, E11, (11, vp x4a), (12, vN)], [], H15⟩ (yc (some 12) false false (S17 x4a) (ok_emit_Code_Fail H c14) (hr := (by generalize x4a = qp0; cases qp0 <;> kernel_rfl)) (hs := (by generalize x4a = qp0; cases qp0 <;> kernel_rfl))) ?_
 exact ye
 exact ⟨H15, hF, (by kernel_rfl)⟩
 refine yF h13 ⟨[E1], [], H⟩ ?_
 refine w_skip ?_
 exact ⟨H, hF, (by kernel_rfl)⟩
noncomputable def emit_Code_Drop (H : Heap) (p0 : Ptr) (p1 : Int) : Option (Heap) :=
  (p0).bnd fun i1 o2 =>
  bind1 (get_emit_Code H i1 o2) fun x4 =>
  bnd (set_emit_Code H i1 o2 (T_emit_Code.mk x4.words_ x4.fixups_ x4.marks_ x4.pads_ x4.active_ (if (IntKind.wrap .i64 (x4.depth_ - p1)) > 0 then (IntKind.wrap .i64 (x4.depth_ - p1)) else 0) x4.most_ x4.err_)) fun H6 =>
  some H6
theorem ok_emit_Code_Drop (H : Heap) {p0 : Ptr} {p1 : Int} {Hr : Heap} (hF : emit_Code_Drop H p0 p1 = some Hr) : evS X 76 [.one .top (Ptr.av p0), .one .top (.int .i64 p1)] H = some (.tup [], Hr) := by
 let E1 : EN := (1, vi p1)
 refine yf Try.func76 false ⟨[(0, vp p0), E1], [], H⟩ ?_
 unfold emit_Code_Drop at hF
 obtain ⟨i1, o2, h3, hF⟩ := pbnd_inv hF
 let E2 : EN := (0, vo i1 o2)
 let E3 : EN := (4, vo i1 o2)
 let E4 : EN := (5, vo i1 o2)
 let E5 : EN := (6, vo i1 o2)
 let E6 : EN := (7, vo i1 (o2 + 5))
 let E10 : EN := (12, vo i1 o2)
 let E11 : EN := (13, vo i1 (o2 + 5))
 let S12 : St := ⟨[E2, E1, E3, E4, E5, E6], [], H⟩
 obtain ⟨x4, V5, hF⟩ := bind1_inv hF
 replace V5 := hgetT_inv V5
 let E7 : EN := (8, vi x4.depth_)
 let E8 : EN := (10, vi (IntKind.wrap .i64 (x4.depth_ - p1)))
 let E9 : EN := (11, vi (if (IntKind.wrap .i64 (x4.depth_ - p1)) > 0 then (IntKind.wrap .i64 (x4.depth_ - p1)) else 0))
 let S13 : St := ⟨[E2, E1, E3, E4, E5, E6, E7, (9, vi p1), E8, E9, E10, E11], [], H⟩
 obtain ⟨H6, h7, hF⟩ := bnd_inv hF
 have V8 : hget H6 i1 o2 8 = some (o_emit_Code (T_emit_Code.mk x4.words_ x4.fixups_ x4.marks_ x4.pads_ x4.active_ (if (IntKind.wrap .i64 (x4.depth_ - p1)) > 0 then (IntKind.wrap .i64 (x4.depth_ - p1)) else 0) x4.most_ x4.err_)) := by rw [← h7]; exact hset_get V5 rfl
 refine w_regO ⟨[], [], H6⟩ ?_ ?_
 refine yr 2 ⟨[(0, vp p0), E1, (4, vp p0), (5, vp p0)], [], H⟩ ?_ (h := (by generalize p0 = qp0; cases qp0 <;> kernel_rfl))
 refine o_eq (congrArg (fun q => (⟨[(0, vp q), E1, (4, vp q), (5, vp q)], [], H⟩ : St)) h3) ?_
 refine yr 1 ⟨[E2, E1, E3, E4, E5], [], H⟩ ?_
 refine yr 1 S12 ?_
 refine o_one ⟨[E2, E1, E3, E4, E5, E6, E7], [], H⟩ (yd (X := X) S12 3 V5 5 1 false (vi x4.depth_) (some 8)) ?_
 refine yr 5 S13 ?_
 refine o_one ⟨[E2, E1, E3, E4, E5, E6, E7, (9, vi p1), E8, E9, E10, E11], [], (hset H i1 o2 [((.own 1), .sl 1 (List.map (eI .u32) x4.words_)), ((.own 1), .sl 4 (List.map e_api_Fixup x4.fixups_)), ((.own 1), .sl 2 (List.map e_api_Segment x4.marks_.list_)), ((.own 1), .sl 1 (List.map (eI .i64) x4.pads_)), ((.own 1), .sl 1 (List.map (eI .i64) x4.active_)), (.top, .int .i64 (if (IntKind.wrap .i64 (x4.depth_ - p1)) > 0 then (IntKind.wrap .i64 (x4.depth_ - p1)) else 0)), (.top, .int .i64 x4.most_), (.top, .int .i64 x4.err_)])⟩ (st_st (X := X) (lc := []) (h2 := (hset H i1 o2 [((.own 1), .sl 1 (List.map (eI .u32) x4.words_)), ((.own 1), .sl 4 (List.map e_api_Fixup x4.fixups_)), ((.own 1), .sl 2 (List.map e_api_Segment x4.marks_.list_)), ((.own 1), .sl 1 (List.map (eI .i64) x4.pads_)), ((.own 1), .sl 1 (List.map (eI .i64) x4.active_)), (.top, .int .i64 (if (IntKind.wrap .i64 (x4.depth_ - p1)) > 0 then (IntKind.wrap .i64 (x4.depth_ - p1)) else 0)), (.top, .int .i64 x4.most_), (.top, .int .i64 x4.err_)])) S13 3 V5 5 1 (vi (if (IntKind.wrap .i64 (x4.depth_ - p1)) > 0 then (IntKind.wrap .i64 (x4.depth_ - p1)) else 0)) (by kernel_rfl) (by kernel_rfl) (by kernel_rfl) (by kernel_rfl) (by kernel_rfl) (by kernel_rfl) (hset_sub0 V5 (Nat.le_of_ble_eq_true rfl)) (by kernel_rfl)) ?_
 refine o_eq (congrArg (fun q => (⟨[E2, E1, E3, E4, E5, E6, E7, (9, vi p1), E8, E9, E10, E11], [], q⟩ : St)) h7) ?_
 exact ye
 obtain e0 := some1_inv hF
 subst e0
 exact yi (vN)
noncomputable def emit_Code_Pop (H : Heap) (p0 : Ptr) (p1 : Int) : Option (Heap) :=
  bind2 (emit_Code_Sign H p0 18 p1 15 0) fun H3 r1 =>
  bind2 (emit_Code_Sign H3 p0 5 15 15 4) fun H6 r4 =>
  bind1 (emit_Code_Drop H6 p0 1) fun H8 =>
  some H8
theorem ok_emit_Code_Pop (H : Heap) {p0 : Ptr} {p1 : Int} {Hr : Heap} (hF : emit_Code_Pop H p0 p1 = some Hr) : evS X 25 [.one .top (Ptr.av p0), .one .top (.int .i64 p1)] H = some (.tup [], Hr) := by
 let E1 : Ptr → EN := fun z0 => (0, vp z0)
 let S2 : Ptr → St := fun z0 => ⟨[(E1 z0), (1, vi p1), (4, vp z0), (5, vi p1)], [], H⟩
 refine yf Try.func25 false ⟨[(E1 p0), (1, vi p1)], [], H⟩ ?_
 unfold emit_Code_Pop at hF
 refine w_seq ?_
 obtain ⟨H3, r1, c2, hF⟩ := bind2_inv hF
 let S3 : Ptr → St := fun z0 => ⟨[(E1 z0), (7, vp z0)], [], H3⟩
 refine w_regO ⟨[(E1 p0)], [], H3⟩ ?_ ?_
 refine yr 2 (S2 p0) ?_ (h := (by generalize p0 = qp0; cases qp0 <;> kernel_rfl))
 refine o_one ⟨[(E1 p0), (1, vi p1), (4, vp p0), (5, vi p1), (6, vi r1)], [], H3⟩ (yc (some 6) false false (S2 p0) (ok_emit_Code_Sign H c2) (hr := (by generalize p0 = qp0; cases qp0 <;> kernel_rfl)) (hs := (by generalize p0 = qp0; cases qp0 <;> kernel_rfl))) ?_
 exact ye
 refine w_seq ?_
 obtain ⟨H6, r4, c5, hF⟩ := bind2_inv hF
 let S4 : Ptr → St := fun z0 => ⟨[(E1 z0), (9, vp z0)], [], H6⟩
 refine w_regO ⟨[(E1 p0)], [], H6⟩ ?_ ?_
 refine yr 1 (S3 p0) ?_ (h := (by generalize p0 = qp0; cases qp0 <;> kernel_rfl))
 refine o_one ⟨[(E1 p0), (7, vp p0), (8, vi r4)], [], H6⟩ (yc (some 8) false false (S3 p0) (ok_emit_Code_Sign H3 c5) (hr := (by generalize p0 = qp0; cases qp0 <;> kernel_rfl)) (hs := (by generalize p0 = qp0; cases qp0 <;> kernel_rfl))) ?_
 exact ye
 obtain ⟨H8, c7, hF⟩ := bind1_inv hF
 refine w_regO ⟨[], [], H8⟩ ?_ ?_
 refine yr 1 (S4 p0) ?_ (h := (by generalize p0 = qp0; cases qp0 <;> kernel_rfl))
 refine o_one ⟨[(E1 p0), (9, vp p0), (10, vN)], [], H8⟩ (yc (some 10) false false (S4 p0) (ok_emit_Code_Drop H6 c7) (hr := (by generalize p0 = qp0; cases qp0 <;> kernel_rfl)) (hs := (by generalize p0 = qp0; cases qp0 <;> kernel_rfl))) ?_
 exact ye
 obtain e0 := some1_inv hF
 subst e0
 exact yi (vN)
noncomputable def emit_Code_Three (H : Heap) (p0 : Ptr) (p1 : Int) (p2 : Int) (p3 : Int) (p4 : Int) : Option (Heap × Int) :=
  bind2 (emit_Code_Put H p0 (T_instr_Instr.mk p1 p2 p3 p4 0)) fun H3 r1 =>
  some (H3, r1)
theorem ok_emit_Code_Three (H : Heap) {p0 : Ptr} {p1 : Int} {p2 : Int} {p3 : Int} {p4 : Int} {ra : Int} {Hr : Heap} (hF : emit_Code_Three H p0 p1 p2 p3 p4 = some (Hr, ra)) : evS X 45 [.one .top (Ptr.av p0), .one .top (.int .i64 p1), .one .top (.int .i64 p2), .one .top (.int .i64 p3), .one .top (.int .i64 p4)] H = some (.one .top (.int .i64 ra), Hr) := by
 let E1 : Ptr → EN := fun z0 => (0, vp z0)
 let E2 : EN := (1, vi p1)
 let E3 : EN := (2, vi p2)
 let E4 : EN := (3, vi p3)
 let E5 : EN := (4, vi p4)
 let E6 : Ptr → EN := fun z0 => (11, vp z0)
 let E7 : EN := (12, vi p1)
 let E8 : EN := (13, vi p2)
 let E9 : EN := (14, vi p3)
 let E10 : EN := (15, vi p4)
 let E11 : EN := (16, .agg [(.top, .int .i64 p1), (.top, .int .i64 p2), (.top, .int .i64 p3), (.top, .int .i64 p4), (.top, .int .i64 0)])
 let S12 : Ptr → St := fun z0 => ⟨[(E1 z0), E2, E3, E4, E5], [], H⟩
 let S13 : Ptr → St := fun z0 => ⟨[(E1 z0), E2, E3, E4, E5, (E6 z0), E7, E8, E9, E10, E11], [], H⟩
 refine yf Try.func45 false (S12 p0) ?_
 unfold emit_Code_Three at hF
 refine ysg (S12 p0) ?_ (h := (by generalize p0 = qp0; cases qp0 <;> kernel_rfl))
 refine w_seq ?_
 obtain ⟨H3, r1, c2, hF⟩ := bind2_inv hF
 refine w_regO ⟨[(10, vi r1)], [], H3⟩ ?_ ?_
 refine yr 6 (S13 p0) ?_ (h := (by generalize p0 = qp0; cases qp0 <;> kernel_rfl))
 refine o_one ⟨[(E1 p0), E2, E3, E4, E5, (E6 p0), E7, E8, E9, E10, E11, (17, vi r1)], [], H3⟩ (yc (some 17) false false (S13 p0) (ok_emit_Code_Put H c2) (hr := (by generalize p0 = qp0; cases qp0 <;> kernel_rfl)) (hs := (by generalize p0 = qp0; cases qp0 <;> kernel_rfl))) ?_
 refine yr 1 ⟨[(E1 p0), E2, E3, E4, E5, (10, vi r1), (E6 p0), E7, E8, E9, E10, E11, (17, vi r1)], [], H3⟩ ?_ (h := (by generalize p0 = qp0; cases qp0 <;> kernel_rfl))
 exact ye
 refine w_ret ?_
 obtain ⟨e0, e1⟩ := some2_inv hF
 subst e0
 subst e1
 exact yi (vi r1)
noncomputable def item_Gen_Two_j2 (H10 : Heap) : Option (Heap × Int) :=
  some (H10, 0)
noncomputable def item_Gen_Two_j1 (p0 : Ptr) (H : Heap) (j1 : Bool) (j2 : Int) : Option (Heap × Int) :=
  (p0).bnd fun i3 o4 =>
  bind1 (get_item_Gen H i3 o4) fun x6 =>
  bind1 (emit_Code_Pop H x6.Code_ 1) fun H9 =>
  if j1 = true then (bind1 (get_item_Gen H9 i3 o4) fun x12 =>
  bind2 (emit_Code_Three H9 x12.Code_ j2 0 0 1) fun H16 r14 =>
  item_Gen_Two_j2 H16)
  else (bind1 (get_item_Gen H9 i3 o4) fun x17 =>
  bind2 (emit_Code_Three H9 x17.Code_ j2 0 1 0) fun H21 r19 =>
  item_Gen_Two_j2 H21)
noncomputable def item_Gen_Two_j3 (p0 : Ptr) (H : Heap) (j23 : Bool) (j24 : Int) : Option (Heap × Int) :=
  item_Gen_Two_j1 p0 H j23 j24
noncomputable def item_Gen_Two_j4 (p0 : Ptr) (H : Heap) (j26 : Bool) (j27 : Int) : Option (Heap × Int) :=
  item_Gen_Two_j3 p0 H j26 j27
noncomputable def item_Gen_Two_j5 (p0 : Ptr) (H : Heap) (j29 : Bool) (j30 : Int) : Option (Heap × Int) :=
  item_Gen_Two_j4 p0 H j29 j30
noncomputable def item_Gen_Two_j6 (p0 : Ptr) (H : Heap) (j32 : Bool) (j33 : Int) : Option (Heap × Int) :=
  item_Gen_Two_j5 p0 H j32 j33
noncomputable def item_Gen_Two_j7 (p0 : Ptr) (H : Heap) (j35 : Bool) (j36 : Int) : Option (Heap × Int) :=
  item_Gen_Two_j6 p0 H j35 j36
noncomputable def item_Gen_Two_j8 (p0 : Ptr) (H : Heap) (j38 : Bool) (j39 : Int) : Option (Heap × Int) :=
  item_Gen_Two_j7 p0 H j38 j39
noncomputable def item_Gen_Two_j9 (p0 : Ptr) (H : Heap) (j41 : Bool) (j42 : Int) : Option (Heap × Int) :=
  item_Gen_Two_j8 p0 H j41 j42
noncomputable def item_Gen_Two_j10 (p0 : Ptr) (H : Heap) (j44 : Bool) (j45 : Int) : Option (Heap × Int) :=
  item_Gen_Two_j9 p0 H j44 j45
noncomputable def item_Gen_Two_j11 (p0 : Ptr) (H : Heap) (j47 : Int) : Option (Heap × Int) :=
  item_Gen_Two_j10 p0 H true j47
noncomputable def item_Gen_Two (H : Heap) (p0 : Ptr) (p1 : ByteArray) : Option (Heap × Int) :=
  if (strEq p1 (ByteArray.mk #[43])) = true then (item_Gen_Two_j1 p0 H false 6)
  else (if (strEq p1 (ByteArray.mk #[45])) = true then (item_Gen_Two_j3 p0 H false 7)
  else (if (strEq p1 (ByteArray.mk #[42])) = true then (item_Gen_Two_j4 p0 H false 8)
  else (if (strEq p1 (ByteArray.mk #[68, 73, 86])) = true then (item_Gen_Two_j5 p0 H false 9)
  else (if (strEq p1 (ByteArray.mk #[77, 79, 68])) = true then (item_Gen_Two_j6 p0 H false 10)
  else (if (strEq p1 (ByteArray.mk #[61])) = true then (item_Gen_Two_j7 p0 H false 16)
  else (if (strEq p1 (ByteArray.mk #[35])) = true then (item_Gen_Two_j8 p0 H false 17)
  else (if (strEq p1 (ByteArray.mk #[60])) = true then (item_Gen_Two_j9 p0 H false 14)
  else (if (strEq p1 (ByteArray.mk #[60, 61])) = true then (item_Gen_Two_j10 p0 H false 15)
  else (if (strEq p1 (ByteArray.mk #[62])) = true then (item_Gen_Two_j11 p0 H 14)
  else (if (strEq p1 (ByteArray.mk #[62, 61])) = true then (item_Gen_Two_j11 p0 H 15)
  else (some (H, 110))))))))))))
theorem ok_item_Gen_Two (H : Heap) {p0 : Ptr} {p1 : ByteArray} {ra : Int} {Hr : Heap} (hF : item_Gen_Two H p0 p1 = some (Hr, ra)) : evS X 18 [.one .top (Ptr.av p0), .one .top (.str p1)] H = some (.one .top (.int .i64 ra), Hr) := by
 let E1 : Ptr → EN := fun z0 => (0, vp z0)
 let E2 : EN := (1, .one .top (.str p1))
 let E3 : EN := (6, vF)
 let E4 : EN := (7, .one .top (.str p1))
 let S19 : Ptr → St := fun z0 => ⟨[(E1 z0), E2], [], H⟩
 let S20 : Ptr → St := fun z0 => ⟨[(E1 z0), E3, E4], [], H⟩
 let S27 : Ptr → St := fun z0 => ⟨[(E1 z0), E3], [], H⟩
 let S28 : Ptr → St := fun z0 => ⟨[(E1 z0), E4], [], H⟩
 refine yf Try.func18 false (S19 p0) ?_
 unfold item_Gen_Two at hF
 refine ysg (S19 p0) ?_ (h := (by generalize p0 = qp0; cases qp0 <;> kernel_rfl))
 refine ysg ⟨[(E1 p0), E2, E3], [], H⟩ ?_ (h := (by generalize p0 = qp0; cases qp0 <;> kernel_rfl))
 refine w_seq ?_
 refine ysg (S20 p0) ?_ (h := (by generalize p0 = qp0; cases qp0 <;> kernel_rfl))
 refine w_block ?_
 refine ysg ⟨[(E1 p0), E3, E4, (8, vb (strEq p1 (ByteArray.mk #[43])))], [], H⟩ ?_ (h := (by generalize p0 = qp0; cases qp0 <;> kernel_rfl))
 refine w_join (α := (Bool × Int)) (fun x => (⟨[(E1 p0), (5, vi x.2), (6, vb x.1)], [], H⟩ : St)) (fun x => item_Gen_Two_j1 p0 H x.1 x.2 = some (Hr, ra)) ?_ ?_
 rintro ⟨j1, j2⟩ hF
 replace hF : item_Gen_Two_j1 p0 H j1 j2 = some (Hr, ra) := hF
 let E6 : EN := (5, vi j2)
 let E7 : EN := (6, vb j1)
 unfold item_Gen_Two_j1 at hF
 refine w_seq ?_
 obtain ⟨i3, o4, h5, hF⟩ := pbnd_inv hF
 let E5 : EN := (0, vo i3 o4)
 let E8 : EN := (30, vo i3 o4)
 let E9 : EN := (31, vo i3 o4)
 let E10 : EN := (32, vo i3 o4)
 let E11 : EN := (36, vo i3 o4)
 let E12 : EN := (37, vo i3 o4)
 let E13 : EN := (38, vo i3 o4)
 let E15 : EN := (42, vo i3 o4)
 let E16 : EN := (43, vo i3 o4)
 let E17 : EN := (44, vo i3 o4)
 let S21 : St := ⟨[E5, E6, E7, E8, E9, E10], [], H⟩
 obtain ⟨⟨x6a, x6b, ⟨x6c, x6d, x6e, x6f⟩⟩, V7, hF⟩ := bind1_inv hF
 replace V7 := hgetT_inv V7
 let S22 : Ptr → St := fun z0 => ⟨[E5, E6, E7, E8, E9, E10, (33, vp z0)], [], H⟩
 obtain ⟨H9, c8, hF⟩ := bind1_inv hF
 let S23 : St := ⟨[E5, E6, E11, E12, E13], [], H9⟩
 let S25 : St := ⟨[E5, E6, E15, E16, E17], [], H9⟩
 refine w_regO ⟨[E5, E6, E7], [], H9⟩ ?_ ?_
 refine yr 1 ⟨[(E1 p0), E6, E7, (30, vp p0)], [], H⟩ ?_ (h := (by generalize p0 = qp0; cases qp0 <;> kernel_rfl))
 refine o_eq (congrArg (fun q => (⟨[(0, vp q), E6, E7, (30, vp q)], [], H⟩ : St)) h5) ?_
 refine yr 1 ⟨[E5, E6, E7, E8, E9], [], H⟩ ?_
 refine yr 1 S21 ?_
 refine o_one (S22 x6a) (yd (X := X) S21 26 V7 0 1 false (vp x6a) (some 33) (hs := (by generalize x6a = qp0; cases qp0 <;> kernel_rfl))) ?_
 refine o_one ⟨[E5, E6, E7, E8, E9, E10, (33, vp x6a), (34, vN)], [], H9⟩ (yc (some 34) false false (S22 x6a) (ok_emit_Code_Pop H c8) (hr := (by generalize x6a = qp0; cases qp0 <;> kernel_rfl)) (hs := (by generalize x6a = qp0; cases qp0 <;> kernel_rfl))) ?_
 exact ye
 refine w_seq ?_
 refine ysg ⟨[E5, E6, (35, vb j1)], [], H9⟩ ?_
 refine w_join (α := (Heap)) (fun x => (⟨[], [], x⟩ : St)) (fun x => item_Gen_Two_j2 x = some (Hr, ra)) ?_ ?_
 rintro H10 hF
 replace hF : item_Gen_Two_j2 H10 = some (Hr, ra) := hF
 unfold item_Gen_Two_j2 at hF
 refine ysg ⟨[(4, vi 0)], [], H10⟩ ?_
 refine w_ret ?_
 obtain ⟨e0, e1⟩ := some2_inv hF
 subst e0
 subst e1
 exact yi (vi 0)
 rcases if_inv hF with ⟨h11, hF⟩ | ⟨h11, hF⟩
 refine yT h11 ⟨[E5, E6], [], H9⟩ ?_
 obtain ⟨⟨x12a, x12b, ⟨x12c, x12d, x12e, x12f⟩⟩, V13, hF⟩ := bind1_inv hF
 replace V13 := hgetT_inv V13
 let E14 : Ptr → EN := fun z0 => (39, vp z0)
 let S24 : Ptr → St := fun z0 => ⟨[E5, E6, E11, E12, E13, (E14 z0), (40, vi j2)], [], H9⟩
 obtain ⟨H16, r14, c15, hF⟩ := bind2_inv hF
 refine w_regO ⟨[], [], H16⟩ ?_ ?_
 refine yr 2 ⟨[E5, E6, E11, E12], [], H9⟩ ?_
 refine yr 1 S23 ?_
 refine o_one ⟨[E5, E6, E11, E12, E13, (E14 x12a)], [], H9⟩ (yd (X := X) S23 26 V13 0 1 false (vp x12a) (some 39) (hs := (by generalize x12a = qp0; cases qp0 <;> kernel_rfl))) ?_
 refine yr 1 (S24 x12a) ?_ (h := (by generalize x12a = qp0; cases qp0 <;> kernel_rfl))
 refine o_one ⟨[E5, E6, E11, E12, E13, (E14 x12a), (40, vi j2), (41, vi r14)], [], H16⟩ (yc (some 41) false false (S24 x12a) (ok_emit_Code_Three H9 c15) (hr := (by generalize x12a = qp0; cases qp0 <;> kernel_rfl)) (hs := (by generalize x12a = qp0; cases qp0 <;> kernel_rfl))) ?_
 exact ye
 exact ⟨H16, hF, (by kernel_rfl)⟩
 refine yF h11 ⟨[E5, E6], [], H9⟩ ?_
 obtain ⟨⟨x17a, x17b, ⟨x17c, x17d, x17e, x17f⟩⟩, V18, hF⟩ := bind1_inv hF
 replace V18 := hgetT_inv V18
 let E18 : Ptr → EN := fun z0 => (45, vp z0)
 let S26 : Ptr → St := fun z0 => ⟨[E5, E6, E15, E16, E17, (E18 z0), (46, vi j2)], [], H9⟩
 obtain ⟨H21, r19, c20, hF⟩ := bind2_inv hF
 refine w_regO ⟨[], [], H21⟩ ?_ ?_
 refine yr 2 ⟨[E5, E6, E15, E16], [], H9⟩ ?_
 refine yr 1 S25 ?_
 refine o_one ⟨[E5, E6, E15, E16, E17, (E18 x17a)], [], H9⟩ (yd (X := X) S25 26 V18 0 1 false (vp x17a) (some 45) (hs := (by generalize x17a = qp0; cases qp0 <;> kernel_rfl))) ?_
 refine yr 1 (S26 x17a) ?_ (h := (by generalize x17a = qp0; cases qp0 <;> kernel_rfl))
 refine o_one ⟨[E5, E6, E15, E16, E17, (E18 x17a), (46, vi j2), (47, vi r19)], [], H21⟩ (yc (some 47) false false (S26 x17a) (ok_emit_Code_Three H9 c20) (hr := (by generalize x17a = qp0; cases qp0 <;> kernel_rfl)) (hs := (by generalize x17a = qp0; cases qp0 <;> kernel_rfl))) ?_
 exact ye
 exact ⟨H21, hF, (by kernel_rfl)⟩
 rcases if_inv hF with ⟨h22, hF⟩ | ⟨h22, hF⟩
 refine yT h22 (S27 p0) ?_
 refine w_reg ⟨[(E1 p0), (5, vi 6), E3], [], H⟩ (by generalize p0 = qp0; cases qp0 <;> kernel_rfl) ?_
 exact ⟨(false, 6), hF, (by kernel_rfl)⟩
 refine yF h22 (S20 p0) ?_
 refine ysg ⟨[(E1 p0), E3, E4, (10, vb (strEq p1 (ByteArray.mk #[45])))], [], H⟩ ?_ (h := (by generalize p0 = qp0; cases qp0 <;> kernel_rfl))
 refine w_join (α := (Bool × Int)) (fun x => (⟨[(E1 p0), (5, vi x.2), (6, vb x.1)], [], H⟩ : St)) (fun x => item_Gen_Two_j3 p0 H x.1 x.2 = some (Hr, ra)) ?_ ?_
 rintro ⟨j23, j24⟩ hF
 replace hF : item_Gen_Two_j3 p0 H j23 j24 = some (Hr, ra) := hF
 unfold item_Gen_Two_j3 at hF
 exact ⟨(j23, j24), hF, (by kernel_rfl)⟩
 rcases if_inv hF with ⟨h25, hF⟩ | ⟨h25, hF⟩
 refine yT h25 (S27 p0) ?_
 refine w_reg ⟨[(E1 p0), (5, vi 7), E3], [], H⟩ (by generalize p0 = qp0; cases qp0 <;> kernel_rfl) ?_
 exact ⟨(false, 7), hF, (by kernel_rfl)⟩
 refine yF h25 (S20 p0) ?_
 refine ysg ⟨[(E1 p0), E3, E4, (12, vb (strEq p1 (ByteArray.mk #[42])))], [], H⟩ ?_ (h := (by generalize p0 = qp0; cases qp0 <;> kernel_rfl))
 refine w_join (α := (Bool × Int)) (fun x => (⟨[(E1 p0), (5, vi x.2), (6, vb x.1)], [], H⟩ : St)) (fun x => item_Gen_Two_j4 p0 H x.1 x.2 = some (Hr, ra)) ?_ ?_
 rintro ⟨j26, j27⟩ hF
 replace hF : item_Gen_Two_j4 p0 H j26 j27 = some (Hr, ra) := hF
 unfold item_Gen_Two_j4 at hF
 exact ⟨(j26, j27), hF, (by kernel_rfl)⟩
 rcases if_inv hF with ⟨h28, hF⟩ | ⟨h28, hF⟩
 refine yT h28 (S27 p0) ?_
 refine w_reg ⟨[(E1 p0), (5, vi 8), E3], [], H⟩ (by generalize p0 = qp0; cases qp0 <;> kernel_rfl) ?_
 exact ⟨(false, 8), hF, (by kernel_rfl)⟩
 refine yF h28 (S20 p0) ?_
 refine ysg ⟨[(E1 p0), E3, E4, (14, vb (strEq p1 (ByteArray.mk #[68, 73, 86])))], [], H⟩ ?_ (h := (by generalize p0 = qp0; cases qp0 <;> kernel_rfl))
 refine w_join (α := (Bool × Int)) (fun x => (⟨[(E1 p0), (5, vi x.2), (6, vb x.1)], [], H⟩ : St)) (fun x => item_Gen_Two_j5 p0 H x.1 x.2 = some (Hr, ra)) ?_ ?_
 rintro ⟨j29, j30⟩ hF
 replace hF : item_Gen_Two_j5 p0 H j29 j30 = some (Hr, ra) := hF
 unfold item_Gen_Two_j5 at hF
 exact ⟨(j29, j30), hF, (by kernel_rfl)⟩
 rcases if_inv hF with ⟨h31, hF⟩ | ⟨h31, hF⟩
 refine yT h31 (S27 p0) ?_
 refine w_reg ⟨[(E1 p0), (5, vi 9), E3], [], H⟩ (by generalize p0 = qp0; cases qp0 <;> kernel_rfl) ?_
 exact ⟨(false, 9), hF, (by kernel_rfl)⟩
 refine yF h31 (S20 p0) ?_
 refine ysg ⟨[(E1 p0), E3, E4, (16, vb (strEq p1 (ByteArray.mk #[77, 79, 68])))], [], H⟩ ?_ (h := (by generalize p0 = qp0; cases qp0 <;> kernel_rfl))
 refine w_join (α := (Bool × Int)) (fun x => (⟨[(E1 p0), (5, vi x.2), (6, vb x.1)], [], H⟩ : St)) (fun x => item_Gen_Two_j6 p0 H x.1 x.2 = some (Hr, ra)) ?_ ?_
 rintro ⟨j32, j33⟩ hF
 replace hF : item_Gen_Two_j6 p0 H j32 j33 = some (Hr, ra) := hF
 unfold item_Gen_Two_j6 at hF
 exact ⟨(j32, j33), hF, (by kernel_rfl)⟩
 rcases if_inv hF with ⟨h34, hF⟩ | ⟨h34, hF⟩
 refine yT h34 (S27 p0) ?_
 refine w_reg ⟨[(E1 p0), (5, vi 10), E3], [], H⟩ (by generalize p0 = qp0; cases qp0 <;> kernel_rfl) ?_
 exact ⟨(false, 10), hF, (by kernel_rfl)⟩
 refine yF h34 (S20 p0) ?_
 refine ysg ⟨[(E1 p0), E3, E4, (18, vb (strEq p1 (ByteArray.mk #[61])))], [], H⟩ ?_ (h := (by generalize p0 = qp0; cases qp0 <;> kernel_rfl))
 refine w_join (α := (Bool × Int)) (fun x => (⟨[(E1 p0), (5, vi x.2), (6, vb x.1)], [], H⟩ : St)) (fun x => item_Gen_Two_j7 p0 H x.1 x.2 = some (Hr, ra)) ?_ ?_
 rintro ⟨j35, j36⟩ hF
 replace hF : item_Gen_Two_j7 p0 H j35 j36 = some (Hr, ra) := hF
 unfold item_Gen_Two_j7 at hF
 exact ⟨(j35, j36), hF, (by kernel_rfl)⟩
 rcases if_inv hF with ⟨h37, hF⟩ | ⟨h37, hF⟩
 refine yT h37 (S27 p0) ?_
 refine w_reg ⟨[(E1 p0), (5, vi 16), E3], [], H⟩ (by generalize p0 = qp0; cases qp0 <;> kernel_rfl) ?_
 exact ⟨(false, 16), hF, (by kernel_rfl)⟩
 refine yF h37 (S20 p0) ?_
 refine ysg ⟨[(E1 p0), E3, E4, (20, vb (strEq p1 (ByteArray.mk #[35])))], [], H⟩ ?_ (h := (by generalize p0 = qp0; cases qp0 <;> kernel_rfl))
 refine w_join (α := (Bool × Int)) (fun x => (⟨[(E1 p0), (5, vi x.2), (6, vb x.1)], [], H⟩ : St)) (fun x => item_Gen_Two_j8 p0 H x.1 x.2 = some (Hr, ra)) ?_ ?_
 rintro ⟨j38, j39⟩ hF
 replace hF : item_Gen_Two_j8 p0 H j38 j39 = some (Hr, ra) := hF
 unfold item_Gen_Two_j8 at hF
 exact ⟨(j38, j39), hF, (by kernel_rfl)⟩
 rcases if_inv hF with ⟨h40, hF⟩ | ⟨h40, hF⟩
 refine yT h40 (S27 p0) ?_
 refine w_reg ⟨[(E1 p0), (5, vi 17), E3], [], H⟩ (by generalize p0 = qp0; cases qp0 <;> kernel_rfl) ?_
 exact ⟨(false, 17), hF, (by kernel_rfl)⟩
 refine yF h40 (S20 p0) ?_
 refine ysg ⟨[(E1 p0), E3, E4, (22, vb (strEq p1 (ByteArray.mk #[60])))], [], H⟩ ?_ (h := (by generalize p0 = qp0; cases qp0 <;> kernel_rfl))
 refine w_join (α := (Bool × Int)) (fun x => (⟨[(E1 p0), (5, vi x.2), (6, vb x.1)], [], H⟩ : St)) (fun x => item_Gen_Two_j9 p0 H x.1 x.2 = some (Hr, ra)) ?_ ?_
 rintro ⟨j41, j42⟩ hF
 replace hF : item_Gen_Two_j9 p0 H j41 j42 = some (Hr, ra) := hF
 unfold item_Gen_Two_j9 at hF
 exact ⟨(j41, j42), hF, (by kernel_rfl)⟩
 rcases if_inv hF with ⟨h43, hF⟩ | ⟨h43, hF⟩
 refine yT h43 (S27 p0) ?_
 refine w_reg ⟨[(E1 p0), (5, vi 14), E3], [], H⟩ (by generalize p0 = qp0; cases qp0 <;> kernel_rfl) ?_
 exact ⟨(false, 14), hF, (by kernel_rfl)⟩
 refine yF h43 (S20 p0) ?_
 refine ysg ⟨[(E1 p0), E3, E4, (24, vb (strEq p1 (ByteArray.mk #[60, 61])))], [], H⟩ ?_ (h := (by generalize p0 = qp0; cases qp0 <;> kernel_rfl))
 refine w_join (α := (Bool × Int)) (fun x => (⟨[(E1 p0), (5, vi x.2), (6, vb x.1)], [], H⟩ : St)) (fun x => item_Gen_Two_j10 p0 H x.1 x.2 = some (Hr, ra)) ?_ ?_
 rintro ⟨j44, j45⟩ hF
 replace hF : item_Gen_Two_j10 p0 H j44 j45 = some (Hr, ra) := hF
 unfold item_Gen_Two_j10 at hF
 exact ⟨(j44, j45), hF, (by kernel_rfl)⟩
 rcases if_inv hF with ⟨h46, hF⟩ | ⟨h46, hF⟩
 refine yT h46 (S27 p0) ?_
 refine w_reg ⟨[(E1 p0), (5, vi 15), E3], [], H⟩ (by generalize p0 = qp0; cases qp0 <;> kernel_rfl) ?_
 exact ⟨(false, 15), hF, (by kernel_rfl)⟩
 refine yF h46 (S28 p0) ?_
 refine ysg ⟨[(E1 p0), E4, (26, vb (strEq p1 (ByteArray.mk #[62])))], [], H⟩ ?_ (h := (by generalize p0 = qp0; cases qp0 <;> kernel_rfl))
 refine w_join (α := (Int)) (fun x => (⟨[(E1 p0), (5, vi x), (6, vT)], [], H⟩ : St)) (fun x => item_Gen_Two_j11 p0 H x = some (Hr, ra)) ?_ ?_
 rintro j47 hF
 replace hF : item_Gen_Two_j11 p0 H j47 = some (Hr, ra) := hF
 unfold item_Gen_Two_j11 at hF
 exact ⟨(true, j47), hF, (by kernel_rfl)⟩
 rcases if_inv hF with ⟨h48, hF⟩ | ⟨h48, hF⟩
 refine yT h48 ⟨[(E1 p0)], [], H⟩ ?_
 refine w_reg ⟨[(E1 p0), (5, vi 14), (6, vT)], [], H⟩ (by generalize p0 = qp0; cases qp0 <;> kernel_rfl) ?_
 exact ⟨14, hF, (by kernel_rfl)⟩
 refine yF h48 (S28 p0) ?_
 refine ysg ⟨[(E1 p0), (28, vb (strEq p1 (ByteArray.mk #[62, 61])))], [], H⟩ ?_ (h := (by generalize p0 = qp0; cases qp0 <;> kernel_rfl))
 rcases if_inv hF with ⟨h49, hF⟩ | ⟨h49, hF⟩
 refine yT h49 ⟨[(E1 p0)], [], H⟩ ?_
 refine w_reg ⟨[(E1 p0), (5, vi 15), (6, vT)], [], H⟩ (by generalize p0 = qp0; cases qp0 <;> kernel_rfl) ?_
 exact ⟨15, hF, (by kernel_rfl)⟩
 refine yF h49 ⟨[], [], H⟩ ?_
 refine ysg ⟨[(4, vi 110)], [], H⟩ ?_
 refine w_ret ?_
 obtain ⟨e0, e1⟩ := some2_inv hF
 subst e0
 subst e1
 exact yi (vi 110)
noncomputable def slices_Clone_api_Segment_api_Segment  (p0 : (List T_api_Segment)) : Option ((List T_api_Segment)) :=
  bind1 (app 16 ([] : List T_api_Segment) p0) fun v1 =>
  some v1
theorem ok_slices_Clone_api_Segment_api_Segment (H : Heap) {p0 : (List T_api_Segment)} {ra : (List T_api_Segment)} (hF : slices_Clone_api_Segment_api_Segment p0 = some ra) : evS X 130 [.one .bh (.sl 2 (List.map e_api_Segment p0))] H = some (.one (.own 1) (.sl 2 (List.map e_api_Segment ra)), H) := by
 let E1 : EN := (0, .one .bh (.sl 2 (List.map e_api_Segment p0)))
 let E2 : EN := (2, .one (.own 1) (.sl 2 (List.map e_api_Segment ([] : List T_api_Segment))))
 let E3 : EN := (3, .one .bh (.sl 2 (List.map e_api_Segment p0)))
 let E4 : EN := (5, .one (.own 1) (.sl 2 (List.map e_api_Segment ([] : List T_api_Segment))))
 let E5 : EN := (6, .one .bh (.sl 2 (List.map e_api_Segment p0)))
 let E6 : EN := (5, .one .top .junk)
 let S8 : St := ⟨[E1], [], H⟩
 refine k_fun Try.func130 rfl (by kernel_rfl) (by kernel_rfl) (by kernel_rfl) (s0 := S8) (by kernel_rfl) ?_
 unfold slices_Clone_api_Segment_api_Segment at hF
 obtain ⟨v1, h2, hF⟩ := bind1_inv hF
 let E7 : EN := (2, .one (.own 1) (.sl 2 (List.map e_api_Segment v1)))
 obtain e0 := some1_inv hF
 subst e0
 refine k_seq ?_
 refine k_region ?_
 refine k_step (⟨[E1, E2], [], H⟩ : St) (by kernel_rfl) (by kernel_rfl) ?_
 refine k_done S8 (by kernel_rfl) ?_
 refine k_seq ?_
 refine k_seq ?_
 refine k_region ?_
 refine k_step (⟨[E1, E3], [], H⟩ : St) (by kernel_rfl) (by kernel_rfl) ?_
 refine k_nil (d := 4) (t := 129) (x := .tmp 3) (m := .bh) (z := 2) (xs := List.map e_api_Segment p0) (⟨[E1, E3, (4, vT)], [], H⟩ : St) (⟨[E1, E3, (4, vF)], [], H⟩ : St) (by kernel_rfl) (by kernel_rfl) (by kernel_rfl) (by kernel_rfl) ?_ ?_
 intro hx
 obtain rfl := List.map_eq_nil_iff.1 hx
 obtain rfl := app_nil h2
 refine k_done (⟨[E1, (4, vT)], [], H⟩ : St) (by kernel_rfl) ?_
 refine k_condT (m := .top) (by kernel_rfl) (s1 := (⟨[], [], H⟩ : St)) (by kernel_rfl) ?_
 refine k_seq ?_
 refine k_region ?_
 refine k_step (⟨[E2], [], H⟩ : St) (by kernel_rfl) (by kernel_rfl) ?_
 refine k_done (⟨[E2], [], H⟩ : St) (by kernel_rfl) ?_
 refine k_ret ?_
 exact k_fin (v := .one (.own 1) (.sl 2 (List.map e_api_Segment ([] : List T_api_Segment)))) (by kernel_rfl) (by kernel_rfl) rfl
 refine k_done (⟨[E1, (4, vF)], [], H⟩ : St) (by kernel_rfl) ?_
 refine k_condF (m := .top) (by kernel_rfl) (s1 := S8) (by kernel_rfl) ?_
 refine k_skip ?_
 refine k_seq ?_
 refine k_region ?_
 refine k_step (⟨[E1, E4], [], H⟩ : St) (by kernel_rfl) (by kernel_rfl) ?_
 refine k_step (⟨[E1, E4, E5], [], H⟩ : St) (by kernel_rfl) (by kernel_rfl) ?_
 refine k_step (⟨[E1, E6, E5, (7, .one (.own 1) (.sl 2 (List.map e_api_Segment v1)))], [], H⟩ : St) (by kernel_rfl) (st_app (X := X) (⟨[E1, E6, E5], [], H⟩ : St) 16 h2 129 129 170 2 0 [(.top, .int .i64 0), (.top, .int .i64 0)] .bh e_api_Segment 9 (some 7) (by kernel_rfl) (by kernel_rfl) (by kernel_rfl) (by kernel_rfl) (by kernel_rfl) (by kernel_rfl) (by kernel_rfl) (by kernel_rfl) (depth_flat rfl fun _ => rfl) (fun _ => rfl) (by kernel_rfl)) ?_
 refine k_step (⟨[E1, E7, E6, E5, (7, .one .top .junk)], [], H⟩ : St) (by kernel_rfl) (by kernel_rfl) ?_
 refine k_done (⟨[E7], [], H⟩ : St) (by kernel_rfl) ?_
 refine k_ret ?_
 exact k_fin (v := .one (.own 1) (.sl 2 (List.map e_api_Segment v1))) (by kernel_rfl) (by kernel_rfl) rfl
noncomputable def ranges_Builder_List (H : Heap) (p0 : Ptr) : Option ((List T_api_Segment)) :=
  (p0).bnd fun i1 o2 =>
  bind1 (get_ranges_Builder H i1 o2) fun x4 =>
  bind1 (slices_Clone_api_Segment_api_Segment x4.list_) fun r6 =>
  some r6
theorem ok_ranges_Builder_List (H : Heap) {p0 : Ptr} {ra : (List T_api_Segment)} (hF : ranges_Builder_List H p0 = some ra) : evS X 110 [.one .top (Ptr.av p0)] H = some (.one (.own 1) (.sl 2 (List.map e_api_Segment ra)), H) := by
 refine yf Try.func110 true ⟨[(0, vp p0)], [], H⟩ ?_
 unfold ranges_Builder_List at hF
 refine ysg ⟨[(0, vp p0)], [], H⟩ ?_ (h := (by generalize p0 = qp0; cases qp0 <;> kernel_rfl))
 refine w_seq ?_
 obtain ⟨i1, o2, h3, hF⟩ := pbnd_inv hF
 let E2 : EN := (0, vo i1 o2)
 let E3 : EN := (3, vo i1 o2)
 let E4 : EN := (4, vo i1 o2)
 let E5 : EN := (5, vo i1 o2)
 let S7 : St := ⟨[E2, E3, E4, E5], [], H⟩
 obtain ⟨x4, V5, hF⟩ := bind1_inv hF
 replace V5 := hgetT_inv V5
 let E6 : EN := (6, .one .bh (.sl 2 (List.map e_api_Segment x4.list_)))
 let S8 : St := ⟨[E2, E3, E4, E5, E6], [], H⟩
 obtain ⟨r6, c7, hF⟩ := bind1_inv hF
 let E1 : EN := (2, .one (.own 1) (.sl 2 (List.map e_api_Segment r6)))
 refine w_regO ⟨[E1], [], H⟩ ?_ ?_
 refine yr 1 ⟨[(0, vp p0), (3, vp p0)], [], H⟩ ?_ (h := (by generalize p0 = qp0; cases qp0 <;> kernel_rfl))
 refine o_eq (congrArg (fun q => (⟨[(0, vp q), (3, vp q)], [], H⟩ : St)) h3) ?_
 refine yr 1 ⟨[E2, E3, E4], [], H⟩ ?_
 refine yr 1 S7 ?_
 refine o_one S8 (yd (X := X) S7 129 V5 0 1 false (.one .bh (.sl 2 (List.map e_api_Segment x4.list_))) (some 6)) ?_
 refine o_one ⟨[E2, E3, E4, E5, E6, (7, .one (.own 1) (.sl 2 (List.map e_api_Segment r6)))], [], H⟩ (yc (some 7) true false S8 (ok_slices_Clone_api_Segment_api_Segment H c7)) ?_
 refine yr 1 ⟨[E2, E1, E3, E4, E5, E6, (7, .one .top .junk)], [], H⟩ ?_
 exact ye
 refine w_ret ?_
 obtain e0 := some1_inv hF
 subst e0
 exact yp (.one (.own 1) (.sl 2 (List.map e_api_Segment r6)))
noncomputable def emit_Code_Finish_j2 (H16 : Heap) (i8 : Nat) (a15 : Int) (j23 : T_api_Segment) : Option ((Int × Heap) ⊕ ((Heap))) :=
  bind1 (ranges_Builder_Mark H16 (Ptr.at i8 0) j23.Start_ j23.Pad_) fun H25 =>
  some (Sum.inl ((IntKind.wrap .i64 (a15 + 1)), H25))
noncomputable def emit_Code_Finish_L1 (r13 : (List T_api_Segment)) (i1 : Nat) (o2 : Nat) (i8 : Nat) (a15 : Int) (H16 : Heap) : Option ((Int × Heap) ⊕ ((Heap))) :=
  if (decide (a15 < (r13.length : Int))) = true then (bind1 (gi r13 a15) fun x18 =>
  bind1 (get_emit_Code H16 i1 o2) fun x20 =>
  if (decide (x18.Start_ ≥ (x20.words_.length : Int))) = true then (some (Sum.inr H16))
  else (if (x18.Pad_ != (-1)) = true then (bind1 (gi x20.pads_ x18.Pad_) fun x27 =>
  emit_Code_Finish_j2 H16 i8 a15 (T_api_Segment.mk x18.Start_ x27))
  else (emit_Code_Finish_j2 H16 i8 a15 x18)))
  else (some (Sum.inr H16))
noncomputable def emit_Code_Finish (H : Heap) (p0 : Ptr) : Option (Heap × T_emit_Result × Int) :=
  (p0).bnd fun i1 o2 =>
  bind1 (get_emit_Code H i1 o2) fun x4 =>
  if (x4.err_ != 0) = true then (some (H, (T_emit_Result.mk ([] : List Int) ([] : List T_api_Fixup) ([] : List T_api_Segment)), x4.err_))
  else (bnd H.length fun i8 =>
  bnd (new_ranges_Builder H (T_ranges_Builder.mk ([] : List T_api_Segment))) fun H7 =>
  bind1 (get_emit_Code H7 i1 o2) fun x11 =>
  bind1 (ranges_Builder_List H7 (Ptr.at i1 (o2 + 2))) fun r13 =>
  bind1 (loopO (fun (x : (Int × Heap)) => emit_Code_Finish_L1 r13 i1 o2 i8 x.1 x.2) (0, H7)) (fun H31 =>
  bind1 (get_emit_Code H31 i1 o2) fun x32 =>
  bind1 (app 4 ([] : List Int) x32.words_) fun v34 =>
  bind1 (app 32 ([] : List T_api_Fixup) x32.fixups_) fun v36 =>
  bind1 (ranges_Builder_List H31 (Ptr.at i8 0)) fun r38 =>
  some (H31, (T_emit_Result.mk v34 v36 r38), 0)))
theorem ok_emit_Code_Finish (H : Heap) {p0 : Ptr} {ra : T_emit_Result} {rb : Int} {Hr : Heap} (hF : emit_Code_Finish H p0 = some (Hr, ra, rb)) : evS X 75 [.one .top (Ptr.av p0)] H = some (.tup [.agg (m0_emit_Result ra), .one .top (.int .i64 rb)], Hr) := by
 let E1 : EN := (2, vl 2 0)
 let B2 : EB := (2, [((.own 1), .sl 1 (List.map (eI .u32) ([] : List Int))), ((.own 1), .sl 4 (List.map e_api_Fixup ([] : List T_api_Fixup))), ((.own 1), .sl 2 (List.map e_api_Segment ([] : List T_api_Segment)))])
 let E7 : EN := (12, .agg [((.own 1), .sl 1 (List.map (eI .u32) ([] : List Int))), ((.own 1), .sl 4 (List.map e_api_Fixup ([] : List T_api_Fixup))), ((.own 1), .sl 2 (List.map e_api_Segment ([] : List T_api_Segment)))])
 let E12 : EN := (12, .agg [(.top, .junk), (.top, .junk), (.top, .junk)])
 let E14 : EN := (17, .agg [(.top, .junk)])
 let E21 : EN := (6, vl 6 0)
 let E25 : EN := (28, vl 6 0)
 let E40 : EN := (43, vl 6 1)
 let E43 : EN := (3, vi 0)
 let E54 : EN := (55, .one .top .junk)
 let E55 : EN := (60, .one .top .junk)
 let E56 : EN := (61, .one .top .junk)
 let E57 : EN := (66, .one .top .junk)
 let E58 : EN := (68, .one .top .junk)
 let E59 : EN := (69, .agg [(.top, .junk), (.top, .junk), (.top, .junk)])
 let E60 : EN := (55, .one (.own 1) (.sl 1 (List.map (eI .u32) ([] : List Int))))
 let E62 : EN := (61, .one (.own 1) (.sl 4 (List.map e_api_Fixup ([] : List T_api_Fixup))))
 refine yf Try.func75 false ⟨[(0, vp p0)], [], H⟩ ?_
 unfold emit_Code_Finish at hF
 refine ysg ⟨[(0, vp p0), E1], [B2], H⟩ ?_ (h := (by generalize p0 = qp0; cases qp0 <;> kernel_rfl))
 refine w_seq ?_
 refine w_seq ?_
 obtain ⟨i1, o2, h3, hF⟩ := pbnd_inv hF
 let E3 : EN := (0, vo i1 o2)
 let E4 : EN := (7, vo i1 o2)
 let E5 : EN := (8, vo i1 o2)
 let E6 : EN := (9, vo i1 (o2 + 7))
 let E8 : EN := (13, vo i1 o2)
 let E9 : EN := (14, vo i1 o2)
 let E10 : EN := (15, vo i1 (o2 + 7))
 let E17 : EN := (19, vo i1 o2)
 let E18 : EN := (20, vo i1 o2)
 let E19 : EN := (21, vo i1 (o2 + 2))
 let E27 : EN := (30, vo i1 o2)
 let E28 : EN := (31, vo i1 o2)
 let E29 : EN := (32, vo i1 o2)
 let E36 : EN := (39, vo i1 o2)
 let E37 : EN := (40, vo i1 o2)
 let E38 : EN := (41, vo i1 (o2 + 3))
 let E45 : EN := (56, vo i1 o2)
 let E46 : EN := (57, vo i1 o2)
 let E47 : EN := (58, vo i1 o2)
 let E49 : EN := (62, vo i1 o2)
 let E50 : EN := (63, vo i1 o2)
 let E51 : EN := (64, vo i1 (o2 + 1))
 let S66 : St := ⟨[E3, E1, E4, E5, E6], [B2], H⟩
 let S67 : St := ⟨[E3, E1, E7, E8, E9, E10], [B2], H⟩
 obtain ⟨x4, V5, hF⟩ := bind1_inv hF
 replace V5 := hgetT_inv V5
 let E11 : EN := (16, vi x4.err_)
 refine w_regO ⟨[E3, E1, (11, vb (x4.err_ != 0))], [B2], H⟩ ?_ ?_
 refine yr 1 ⟨[(0, vp p0), E1, (7, vp p0)], [B2], H⟩ ?_ (h := (by generalize p0 = qp0; cases qp0 <;> kernel_rfl))
 refine o_eq (congrArg (fun q => (⟨[(0, vp q), E1, (7, vp q)], [B2], H⟩ : St)) h3) ?_
 refine yr 1 ⟨[E3, E1, E4, E5], [B2], H⟩ ?_
 refine yr 1 S66 ?_
 refine o_one ⟨[E3, E1, E4, E5, E6, (10, vi x4.err_)], [B2], H⟩ (yd (X := X) S66 33 V5 7 1 false (vi x4.err_) (some 10)) ?_
 refine yr 1 ⟨[E3, E1, E4, E5, E6, (10, vi x4.err_), (11, vb (x4.err_ != 0))], [B2], H⟩ ?_
 exact ye
 rcases if_inv hF with ⟨h6, hF⟩ | ⟨h6, hF⟩
 refine yT h6 ⟨[E3, E1], [B2], H⟩ ?_
 refine w_seq ?_
 refine w_regD (.take 0 (.take 1 (.take 2 (.take 3 (.take 4 (.last 5 (.take 6 .done))))))) (by kernel_rfl) (⟨[E1, (3, vi x4.err_)], [B2], H⟩ : St) ?_ ?_
 refine ydk 4 S67 ?_
 refine d_take ⟨[E3, E1, E7, E8, E9, E10, E11], [B2], H⟩ (yd (X := X) S67 33 V5 7 1 false (vi x4.err_) (some 16)) ?_
 refine ydl ⟨[E3, E1, E12, E8, E9, E10, E11], [B2], H⟩ ?_
 refine ydt ⟨[E3, E1, (3, vi x4.err_), E12, E8, E9, E10, E11], [B2], H⟩ ?_
 exact yde
 refine w_ret ?_
 obtain ⟨e0, e1, e2⟩ := some3_inv hF
 subst e0
 subst e1
 subst e2
 exact yi (.tup [.agg [((.own 1), .sl 1 (List.map (eI .u32) ([] : List Int))), ((.own 1), .sl 4 (List.map e_api_Fixup ([] : List T_api_Fixup))), ((.own 1), .sl 2 (List.map e_api_Segment ([] : List T_api_Segment)))], vi x4.err_])
 refine yF h6 ⟨[E3, E1], [B2], H⟩ ?_
 refine w_skip ?_
 refine w_seq ?_
 obtain ⟨i8, h10, hF⟩ := bnd_inv hF
 let E13 : EN := (4, vo i8 0)
 let E53 : EN := (67, vo i8 0)
 obtain ⟨H7, h9, hF⟩ := bnd_inv hF
 let S68 : St := ⟨[E3, E1, E13, E17, E18, E19], [B2], H7⟩
 refine w_regO ⟨[E3, E1, E13], [B2], H7⟩ ?_ ?_
 refine yr 1 ⟨[E3, E1, (17, .agg [((.own 1), .sl 2 (List.map e_api_Segment ([] : List T_api_Segment)))])], [B2], H⟩ ?_
 refine o_one ⟨[E3, E1, E14, (18, vo H.length 0)], [B2], (H ++ [[((.own 1), .sl 2 (List.map e_api_Segment ([] : List T_api_Segment)))]])⟩ (by kernel_rfl) ?_
 refine o_eq (congr2 (fun q u => (⟨[E3, E1, E14, (18, vo q 0)], [B2], u⟩ : St)) h10 h9) ?_
 refine yr 1 ⟨[E3, E1, E13, E14, (18, vo i8 0)], [B2], H7⟩ ?_
 exact ye
 refine w_seq ?_
 refine w_seq ?_
 obtain ⟨x11, V12, hF⟩ := bind1_inv hF
 replace V12 := hgetT_inv V12
 obtain ⟨r13, c14, hF⟩ := bind1_inv hF
 let E15 : EN := (22, .one (.own 1) (.sl 2 (List.map e_api_Segment r13)))
 let E16 : EN := (23, vi (r13.length : Int))
 let S69 : St := ⟨[E3, E1, E13, E17, E18, E19, E15], [B2], H7⟩
 refine w_regO ⟨[E3, E1, E13, E15, E16, (24, vi 0)], [B2], H7⟩ ?_ ?_
 refine yr 2 ⟨[E3, E1, E13, E17, E18], [B2], H7⟩ ?_
 refine yr 1 S68 ?_
 refine o_one S69 (yc (some 22) true false S68 (ok_ranges_Builder_List H7 c14)) ?_
 refine o_one ⟨[E3, E1, E13, E17, E18, E19, E15, E16], [B2], H7⟩ (yl S69 r13 e_api_Segment (some 23)) ?_
 refine yr 1 ⟨[E3, E1, E13, E17, E18, E19, E15, E16, (24, vi 0)], [B2], H7⟩ ?_
 exact ye
 refine w_block ?_
 obtain ⟨r29, hL30, hF⟩ := bind1_inv hF
 refine w_loop (fun (x : (Int × Heap)) => (⟨[E3, E1, E13, E15, E16, (24, vi x.1)], [B2], x.2⟩ : St)) (fun (y : (Heap)) => ((.exit 0, (⟨[E3, E1, E13], [B2], y⟩ : St)) : Ex × St)) hL30 (by kernel_rfl) ?_ ?_
 rintro ⟨a15, H16⟩ o hF
 replace hF : emit_Code_Finish_L1 r13 i1 o2 i8 a15 H16 = some o := hF
 let E20 : EN := (24, vi a15)
 let S70 : St := ⟨[E3, E1, E13, E15, E16, E20], [B2], H16⟩
 let S74 : St := ⟨[E3, E1, E13], [B2], H16⟩
 unfold emit_Code_Finish_L1 at hF
 refine ysg ⟨[E3, E1, E13, E15, E16, E20, (25, vb (decide (a15 < (r13.length : Int))))], [B2], H16⟩ ?_
 refine w_seq ?_
 rcases if_inv hF with ⟨h17, hF⟩ | ⟨h17, hF⟩
 refine yT h17 S70 ?_
 refine w_skip ?_
 refine w_seq ?_
 refine w_block ?_
 refine w_seq ?_
 obtain ⟨x18, h19, hF⟩ := bind1_inv hF
 let B22 : EB := (6, [(.top, .int .i64 x18.Start_), (.top, .int .i64 x18.Pad_)])
 let E23 : EN := (26, .one .top (.rd .bl (.own 0) [.int .i64 x18.Start_, .int .i64 x18.Pad_] 0))
 let E26 : EN := (29, vi x18.Start_)
 let E41 : EN := (44, vi x18.Pad_)
 let S71 : St := ⟨[E3, E1, E13, E21, E15, E16, E20], [B2, B22], H16⟩
 let S72 : St := ⟨[E3, E1, E13, E21, E15, E16, E20, E25, E26, E27, E28, E29], [B2, B22], H16⟩
 let S76 : St := ⟨[E3, E1, E13, E21, E15, E16, E20, E36, E37, E38], [B2, B22], H16⟩
 refine w_regO S71 ?_ ?_
 refine o_one ⟨[E3, E1, E13, E15, E16, E20, E23], [B2], H16⟩ (st_ix (X := X) S70 129 170 2 h19 e_api_Segment (.own 1) (some 26) (by kernel_rfl) (by kernel_rfl) (by kernel_rfl) (by kernel_rfl)) ?_
 refine yr 3 ⟨[E3, E1, E13, E21, E15, E16, E20, E23, (27, .agg [(.top, .int .i64 x18.Start_), (.top, .int .i64 x18.Pad_)])], [B2, B22], H16⟩ ?_
 exact ye
 refine w_seq ?_
 refine w_seq ?_
 obtain ⟨x20, V21, hF⟩ := bind1_inv hF
 replace V21 := hgetT_inv V21
 let E24 : EN := (35, vb (decide (x18.Start_ ≥ (x20.words_.length : Int))))
 let E30 : EN := (33, .one .bh (.sl 1 (List.map (eI .u32) x20.words_)))
 let E31 : EN := (34, vi (x20.words_.length : Int))
 let E39 : EN := (42, .one .bh (.sl 1 (List.map (eI .i64) x20.pads_)))
 let S73 : St := ⟨[E3, E1, E13, E21, E15, E16, E20, E25, E26, E27, E28, E29, E30], [B2, B22], H16⟩
 let S77 : St := ⟨[E3, E1, E13, E21, E15, E16, E20, E36, E37, E38, E39, E40, E41], [B2, B22], H16⟩
 refine w_regD (.take 0 (.take 1 (.take 2 (.take 3 (.take 4 (.take 5 (.take 6 (.take 7 .done)))))))) (by kernel_rfl) (⟨[E3, E1, E13, E21, E15, E16, E20, E24], [B2, B22], H16⟩ : St) ?_ ?_
 refine ydk 5 S72 ?_
 refine d_take S73 (yd (X := X) S72 42 V21 0 1 false (.one .bh (.sl 1 (List.map (eI .u32) x20.words_))) (some 33)) ?_
 refine d_take ⟨[E3, E1, E13, E21, E15, E16, E20, E25, E26, E27, E28, E29, E30, E31], [B2, B22], H16⟩ (yl S73 x20.words_ (eI .u32) (some 34)) ?_
 refine ydt ⟨[E3, E1, E13, E21, E15, E16, E20, E25, E26, E27, E28, E29, E30, E31, E24], [B2, B22], H16⟩ ?_
 exact yde
 rcases if_inv hF with ⟨h22, hF⟩ | ⟨h22, hF⟩
 refine yT h22 S74 ?_
 refine w_exit ?_
 refine e_out rfl ?_
 cases hF
 exact ⟨_, rfl, (by kernel_rfl)⟩
 refine yF h22 S71 ?_
 refine w_skip ?_
 refine w_seq ?_
 refine ysg ⟨[E3, E1, E13, E21, E15, E16, E20, (38, vb (x18.Pad_ != (-1)))], [B2, B22], H16⟩ ?_
 refine w_join (α := (T_api_Segment)) (fun x => (⟨[E3, E1, E13, E21, E15, E16, E20], [B2, (6, [(.top, .int .i64 x.Start_), (.top, .int .i64 x.Pad_)])], H16⟩ : St)) (fun x => emit_Code_Finish_j2 H16 i8 a15 x = some o) ?_ ?_
 rintro j23 hF
 replace hF : emit_Code_Finish_j2 H16 i8 a15 j23 = some o := hF
 let E32 : EN := (50, vi j23.Start_)
 let E33 : EN := (52, vi j23.Pad_)
 let B34 : EB := (6, [(.top, .int .i64 j23.Start_), (.top, .int .i64 j23.Pad_)])
 let S75 : St := ⟨[E3, E1, E13, E21, E15, E16, E20, (48, vo i8 0), (49, vl 6 0), E32, (51, vl 6 1), E33], [B2, B34], H16⟩
 unfold emit_Code_Finish_j2 at hF
 obtain ⟨H25, c24, hF⟩ := bind1_inv hF
 refine w_regO ⟨[E3, E1, E13, E15, E16, E20], [B2], H25⟩ ?_ ?_
 refine yr 5 S75 ?_
 refine o_one ⟨[E3, E1, E13, E21, E15, E16, E20, (48, vo i8 0), (49, vl 6 0), E32, (51, vl 6 1), E33, (53, vN)], [B2, B34], H25⟩ (yc (some 53) false false S75 (ok_ranges_Builder_Mark H16 c24)) ?_
 exact ye
 refine yg ⟨[E3, E1, E13, E15, E16, (24, vi (IntKind.wrap .i64 (a15 + 1)))], [B2], H25⟩ ?_
 cases hF
 exact ⟨_, rfl, (by kernel_rfl)⟩
 rcases if_inv hF with ⟨h26, hF⟩ | ⟨h26, hF⟩
 refine yT h26 S71 ?_
 obtain ⟨x27, h28, hF⟩ := bind1_inv hF
 let B35 : EB := (6, [(.top, .int .i64 x18.Start_), (.top, .int .i64 x27)])
 let E42 : EN := (45, .one .top (.rd .bh .bh [.int .i64 x27] 0))
 refine w_regD (.take 0 (.take 1 (.take 2 (.take 3 (.take 4 (.last 5 (.take 6 (.take 7 (.take 8 (.last 9 .done)))))))))) (by kernel_rfl) (⟨[E3, E1, E13, E21, E15, E16, E20], [B2, B35], H16⟩ : St) ?_ ?_
 refine ydk 3 S76 ?_
 refine d_take ⟨[E3, E1, E13, E21, E15, E16, E20, E36, E37, E38, E39], [B2, B22], H16⟩ (yd (X := X) S76 27 V21 3 1 false (.one .bh (.sl 1 (List.map (eI .i64) x20.pads_))) (some 42)) ?_
 refine ydt ⟨[E3, E1, E13, E21, E15, E16, E20, E36, E37, E38, E39, E40], [B2, B22], H16⟩ ?_
 refine ydl S77 ?_
 refine d_take ⟨[E3, E1, E13, E21, E15, E16, E20, E36, E37, E38, E39, E40, E41, E42], [B2, B22], H16⟩ (st_ix (X := X) S77 27 3 1 h28 (eI .i64) .bh (some 45) (by kernel_rfl) (by kernel_rfl) (by kernel_rfl) (by kernel_rfl)) ?_
 refine ydk 2 ⟨[E3, E1, E13, E21, E15, E16, E20, E36, E37, E38, E39, E40, E41, E42, (46, vi x27), (47, vl 6 1)], [B2, B22], H16⟩ ?_
 refine ydl ⟨[E3, E1, E13, E21, E15, E16, E20, E36, E37, E38, E39, E40, E41, E42, (46, vi x27), (47, vl 6 1)], [B2, B35], H16⟩ ?_
 exact yde
 exact ⟨(T_api_Segment.mk x18.Start_ x27), hF, (by kernel_rfl)⟩
 refine yF h26 S71 ?_
 refine w_skip ?_
 exact ⟨x18, hF, (by kernel_rfl)⟩
 refine yF h17 S74 ?_
 refine w_exit ?_
 cases hF
 exact ⟨_, rfl, (by kernel_rfl)⟩
 obtain ⟨H31, hy⟩ : ∃ y, y = r29 := ⟨_, rfl⟩
 subst hy
 let S78 : St := ⟨[E3, E1, E13, E45, E46, E47], [B2], H31⟩
 refine w_oe (i := 0) (s := (⟨[E3, E1, E13], [B2], H31⟩ : St)) (by kernel_rfl) ?_
 refine e_here ?_
 refine w_seq ?_
 obtain ⟨x32, V33, hF⟩ := bind1_inv hF
 replace V33 := hgetT_inv V33
 let E48 : EN := (59, .one .bh (.sl 1 (List.map (eI .u32) x32.words_)))
 let E52 : EN := (65, .one .bh (.sl 4 (List.map e_api_Fixup x32.fixups_)))
 let S79 : St := ⟨[E3, E1, E13, E45, E46, E47, E48, E49, E50, E51], [B2], H31⟩
 let S87 : St := ⟨[E3, E1, E13, E60, E45, E46, E47, E48, E62, E49, E50, E51, E52, E53], [B2], H31⟩
 let S88 : St := ⟨[E3, E1, E13, E54, E45, E46, E47, E48, E62, E49, E50, E51, E52, E53], [B2], H31⟩
 obtain ⟨v34, h35, hF⟩ := bind1_inv hF
 let E61 : EN := (60, .one (.own 1) (.sl 1 (List.map (eI .u32) v34)))
 let S81 : St := ⟨[E3, E1, E13, E54, E45, E46, E47, E48, E61, E62, E49, E50, E51, E52, E53], [B2], H31⟩
 let S83 : St := ⟨[E3, E1, E13, E54, E45, E46, E47, E48, E61, E56, E49, E50, E51, E52, E53], [B2], H31⟩
 obtain ⟨v36, h37, hF⟩ := bind1_inv hF
 let E63 : EN := (66, .one (.own 1) (.sl 4 (List.map e_api_Fixup v36)))
 let S82 : St := ⟨[E3, E1, E13, E54, E45, E46, E47, E48, E61, E56, E49, E50, E51, E52, E63, E53], [B2], H31⟩
 obtain ⟨r38, c39, hF⟩ := bind1_inv hF
 let B44 : EB := (2, [((.own 1), .sl 1 (List.map (eI .u32) v34)), ((.own 1), .sl 4 (List.map e_api_Fixup v36)), ((.own 1), .sl 2 (List.map e_api_Segment r38))])
 let E64 : EN := (68, .one (.own 1) (.sl 2 (List.map e_api_Segment r38)))
 let E65 : EN := (69, .agg [((.own 1), .sl 1 (List.map (eI .u32) v34)), ((.own 1), .sl 4 (List.map e_api_Fixup v36)), ((.own 1), .sl 2 (List.map e_api_Segment r38))])
 let S80 : St := ⟨[E3, E1, E43, E13, E54, E45, E46, E47, E48, E55, E56, E49, E50, E51, E52, E57, E53, E58, E59], [B44], H31⟩
 let S84 : St := ⟨[E3, E1, E13, E54, E45, E46, E47, E48, E61, E56, E49, E50, E51, E52, E63, E53, E64], [B2], H31⟩
 let S85 : St := ⟨[E3, E1, E13, E54, E45, E46, E47, E48, E55, E56, E49, E50, E51, E52, E57, E53, E58, E65], [B2], H31⟩
 let S86 : St := ⟨[E3, E1, E13, E54, E45, E46, E47, E48, E55, E56, E49, E50, E51, E52, E57, E53, E58, E59], [B44], H31⟩
 let K89 : Sch := .last 5 (.last 11 (.last 13 (.take 14 (.last 15 (.take 16 .done)))))
 refine w_regD (.take 1 (.take 2 (.take 3 (.take 4 (.take 7 (.take 8 (.take 9 (.take 10 (.take 12 (.alt 0 (.alt 5 (.last 6 (.last 11 (.last 13 (.take 14 (.last 15 (.take 16 .done)))))) (.last 6 K89)) (.last 6 (.last 0 K89)))))))))))) (by kernel_rfl) (⟨[E1, E43], [B44], H31⟩ : St) ?_ ?_
 refine ydk 3 S78 ?_
 refine d_take ⟨[E3, E1, E13, E45, E46, E47, E48], [B2], H31⟩ (yd (X := X) S78 42 V33 0 1 false (.one .bh (.sl 1 (List.map (eI .u32) x32.words_))) (some 59)) ?_
 refine ydk 3 S79 ?_
 refine d_take ⟨[E3, E1, E13, E45, E46, E47, E48, E49, E50, E51, E52], [B2], H31⟩ (yd (X := X) S79 128 V33 1 1 false (.one .bh (.sl 4 (List.map e_api_Fixup x32.fixups_))) (some 65)) ?_
 refine ydt ⟨[E3, E1, E13, E45, E46, E47, E48, E49, E50, E51, E52, E53], [B2], H31⟩ ?_
 refine q_in S80 ?_ ?_
 refine q_alt ⟨[E3, E1, E13, E60, E45, E46, E47, E48, E49, E50, E51, E52, E53], [B2], H31⟩ (by kernel_rfl) ?_ ?_
 refine q_alt ⟨[E3, E1, E13, E54, E45, E46, E47, E48, E61, E49, E50, E51, E52, E53], [B2], H31⟩ (st_app (X := X) (⟨[E3, E1, E13, E54, E45, E46, E47, E48, E49, E50, E51, E52, E53], [B2], H31⟩ : St) 4 h35 42 42 35 1 0 [(.top, .int .u32 0)] .bh (eI .u32) 9 (some 60) (by kernel_rfl) (by kernel_rfl) (by kernel_rfl) (by kernel_rfl) (by kernel_rfl) (by kernel_rfl) (by kernel_rfl) (by kernel_rfl) (depth_flat rfl fun _ => rfl) (fun _ => rfl) (by kernel_rfl)) ?_ ?_
 refine yql S81 ?_
 refine q_last S82 (st_app (X := X) S83 32 h37 128 128 135 4 0 (List.replicate 4 (.top, .int .i64 0)) .bh e_api_Fixup 9 (some 66) (by kernel_rfl) (by kernel_rfl) (by kernel_rfl) (by kernel_rfl) (by kernel_rfl) (by kernel_rfl) (by kernel_rfl) (by kernel_rfl) (depth_flat rfl fun _ => rfl) (fun _ => rfl) (by kernel_rfl)) ?_
 refine q_last S84 (yc (some 68) true false S82 (ok_ranges_Builder_List H31 c39)) ?_
 refine yqt S85 ?_
 refine yql S86 ?_
 refine yqt S80 ?_
 exact yqe
 refine yql S87 ?_
 refine q_last S81 (st_app (X := X) S88 4 h35 42 42 35 1 0 [(.top, .int .u32 0)] .bh (eI .u32) 9 (some 60) (by kernel_rfl) (by kernel_rfl) (by kernel_rfl) (by kernel_rfl) (by kernel_rfl) (by kernel_rfl) (by kernel_rfl) (by kernel_rfl) (depth_flat rfl fun _ => rfl) (fun _ => rfl) (by kernel_rfl)) ?_
 refine q_last S82 (st_app (X := X) S83 32 h37 128 128 135 4 0 (List.replicate 4 (.top, .int .i64 0)) .bh e_api_Fixup 9 (some 66) (by kernel_rfl) (by kernel_rfl) (by kernel_rfl) (by kernel_rfl) (by kernel_rfl) (by kernel_rfl) (by kernel_rfl) (by kernel_rfl) (depth_flat rfl fun _ => rfl) (fun _ => rfl) (by kernel_rfl)) ?_
 refine q_last S84 (yc (some 68) true false S82 (ok_ranges_Builder_List H31 c39)) ?_
 refine yqt S85 ?_
 refine yql S86 ?_
 refine yqt S80 ?_
 exact yqe
 refine yql ⟨[E3, E1, E13, E45, E46, E47, E48, E62, E49, E50, E51, E52, E53], [B2], H31⟩ ?_
 refine yql S87 ?_
 refine q_last S81 (st_app (X := X) S88 4 h35 42 42 35 1 0 [(.top, .int .u32 0)] .bh (eI .u32) 9 (some 60) (by kernel_rfl) (by kernel_rfl) (by kernel_rfl) (by kernel_rfl) (by kernel_rfl) (by kernel_rfl) (by kernel_rfl) (by kernel_rfl) (depth_flat rfl fun _ => rfl) (fun _ => rfl) (by kernel_rfl)) ?_
 refine q_last S82 (st_app (X := X) S83 32 h37 128 128 135 4 0 (List.replicate 4 (.top, .int .i64 0)) .bh e_api_Fixup 9 (some 66) (by kernel_rfl) (by kernel_rfl) (by kernel_rfl) (by kernel_rfl) (by kernel_rfl) (by kernel_rfl) (by kernel_rfl) (by kernel_rfl) (depth_flat rfl fun _ => rfl) (fun _ => rfl) (by kernel_rfl)) ?_
 refine q_last S84 (yc (some 68) true false S82 (ok_ranges_Builder_List H31 c39)) ?_
 refine yqt S85 ?_
 refine yql S86 ?_
 refine yqt S80 ?_
 exact yqe
 kernel_rfl
 refine w_ret ?_
 obtain ⟨e0, e1, e2⟩ := some3_inv hF
 subst e0
 subst e1
 subst e2
 exact yi (.tup [.agg [((.own 1), .sl 1 (List.map (eI .u32) v34)), ((.own 1), .sl 4 (List.map e_api_Fixup v36)), ((.own 1), .sl 2 (List.map e_api_Segment r38))], vi 0])
end Go.Proofs.Abs
