/- The law EmitPlays: whatever the input, it answers true. No conditions. (Part EmitPlaysF0 of its proof.) -/
import Derived.Test.YtjaofdkkhhaikaaEmitPlaysX
set_option linter.unusedVariables false
set_option linter.unusedSimpArgs false
set_option linter.unusedSectionVars false
/- Printed by gen (walk.py). -/
namespace Go.Proofs.Abs
open Go Go.Proofs
set_option linter.unusedVariables false
set_option maxRecDepth 100000
set_option maxHeartbeats 0
noncomputable def ranges_Builder_Mark_j1 (i1 : Nat) (o2 : Nat) (p2 : Int) (j11 : Int) (H12 : Heap) : Option (Heap) :=
  bind1 (get_ranges_Builder H12 i1 o2) fun x13 =>
  bind1 (if (decide ((x13.list_.length : Int) > 0)) = true then (bind1 (gi x13.list_ (IntKind.wrap .i64 ((x13.list_.length : Int) - 1))) fun x16 =>
  some (x16.Pad_ == p2)) else (some false)) fun w18 =>
  if w18 = true then (some H12)
  else (bind1 (app 16 x13.list_ ([(T_api_Segment.mk j11 p2)] : List T_api_Segment)) fun v21 =>
  bnd (set_ranges_Builder H12 i1 o2 (T_ranges_Builder.mk v21)) fun H23 =>
  some H23)
noncomputable def ranges_Builder_Mark (H : Heap) (p0 : Ptr) (p1 : Int) (p2 : Int) : Option (Heap) :=
  (p0).bnd fun i1 o2 =>
  bind1 (get_ranges_Builder H i1 o2) fun x4 =>
  bind1 (if (decide ((x4.list_.length : Int) > 0)) = true then (bind1 (gi x4.list_ (IntKind.wrap .i64 ((x4.list_.length : Int) - 1))) fun x7 =>
  some (decide (p1 ≤ x7.Start_))) else (some false)) fun w9 =>
  if w9 = true then (bind1 (gi x4.list_ (IntKind.wrap .i64 ((x4.list_.length : Int) - 1))) fun x27 =>
  bind1 (cut x4.list_ 0 (IntKind.wrap .i64 ((x4.list_.length : Int) - 1))) fun v29 =>
  bnd (set_ranges_Builder H i1 o2 (T_ranges_Builder.mk v29)) fun H31 =>
  ranges_Builder_Mark_j1 i1 o2 p2 x27.Start_ H31)
  else (ranges_Builder_Mark_j1 i1 o2 p2 p1 H)
theorem ok_ranges_Builder_Mark (H : Heap) {p0 : Ptr} {p1 : Int} {p2 : Int} {Hr : Heap} (hF : ranges_Builder_Mark H p0 p1 p2 = some Hr) : evS X 23 [.one .top (Ptr.av p0), .one .top (.int .i64 p1), .one .top (.int .i64 p2)] H = some (.tup [], Hr) := by
 let E3 : EN := (1, vi p1)
 let E4 : EN := (2, vi p2)
 refine yf Try.func23 false ⟨[(0, vp p0), E3, E4], [], H⟩ ?_
 unfold ranges_Builder_Mark at hF
 refine w_seq ?_
 refine w_seq ?_
 obtain ⟨i1, o2, h3, hF⟩ := pbnd_inv hF
 let E9 : EN := (0, vo i1 o2)
 let E11 : EN := (47, vo i1 o2)
 let E12 : EN := (48, vo i1 o2)
 let L34 : List EN := [E9, E3, E4]
 let L39 : List EN := [(8, vo i1 o2), (9, vo i1 o2), (10, vo i1 o2)]
 obtain ⟨x4, V5, hF⟩ := bind1_inv hF
 replace V5 := hgetT_inv V5
 let E5 : EN := (11, .one .bh (.sl 2 (List.map e_api_Segment x4.list_)))
 let E6 : EN := (12, vi (x4.list_.length : Int))
 let E7 : EN := (20, .one .bh (.sl 2 (List.map e_api_Segment x4.list_)))
 let E20 : EN := (6, vi (x4.list_.length : Int))
 let E21 : EN := (31, .one .bh (.sl 2 (List.map e_api_Segment x4.list_)))
 let E23 : EN := (41, .one (.own 1) (.sl 2 (List.map e_api_Segment x4.list_)))
 let E24 : EN := (42, vi (x4.list_.length : Int))
 let E25 : EN := (43, vi (IntKind.wrap .i64 ((x4.list_.length : Int) - 1)))
 let L28 : List EN := [E9, E3, E4, E20]
 let L30 : List EN := L28 ++ [(13, vi (x4.list_.length : Int))]
 let L36 : List EN := L30 ++ [(14, vT), (15, vT), (16, vi p1), (17, vo i1 o2), (18, vo i1 o2), (19, vo i1 o2)]
 let L38 : List EN := [E9, E4, E20, (28, vo i1 o2), (29, vo i1 o2), (30, vo i1 o2)]
 let L42 : List EN := L36 ++ [E7, (21, vi (x4.list_.length : Int)), (22, vi (IntKind.wrap .i64 ((x4.list_.length : Int) - 1)))]
 let L44 : List EN := [E21, (32, vi (x4.list_.length : Int)), (33, vi (IntKind.wrap .i64 ((x4.list_.length : Int) - 1)))]
 refine w_regO ⟨L28, [], H⟩ ?_ ?_
 refine yr 1 ⟨[(0, vp p0), E3, E4, (8, vp p0)], [], H⟩ ?_ (h := (by generalize p0 = qp0; cases qp0 <;> kernel_rfl))
 refine o_eq (congrArg (fun q => (⟨[(0, vp q), E3, E4, (8, vp q)], [], H⟩ : St)) h3) ?_
 refine yr 1 ⟨L34 ++ [(8, vo i1 o2), (9, vo i1 o2)], [], H⟩ ?_
 refine yr 1 ⟨L34 ++ L39, [], H⟩ ?_
 refine o_one ⟨L34 ++ L39 ++ [E5], [], H⟩ (yd (X := X) (⟨L34 ++ L39, [], H⟩ : St) 34 V5 0 1 false (.one .bh (.sl 2 (List.map e_api_Segment x4.list_))) (some 11)) ?_
 refine o_one ⟨L34 ++ L39 ++ [E5, E6], [], H⟩ (yl (⟨L34 ++ L39 ++ [E5], [], H⟩ : St) x4.list_ e_api_Segment (some 12)) ?_
 refine yr 1 ⟨L28 ++ L39 ++ [E5, E6], [], H⟩ ?_
 exact ye
 refine w_seq ?_
 obtain ⟨w9, hB10, hF⟩ := bind1_inv hF
 refine w_regO ⟨L28 ++ [(27, vb w9)], [], H⟩ ?_ ?_
 refine yr 3 ⟨L30 ++ [(14, vb (decide ((x4.list_.length : Int) > 0))), (15, vb (decide ((x4.list_.length : Int) > 0)))], [], H⟩ ?_
 rcases if_inv hB10 with ⟨h6, hB10⟩ | ⟨h6, hB10⟩
 refine o_eq (congrArg (fun q => (⟨L30 ++ [(14, vb q), (15, vb q)], [], H⟩ : St)) h6) ?_
 refine yr 4 ⟨L36, [], H⟩ ?_
 refine o_one ⟨L36 ++ [E7], [], H⟩ (yd (X := X) (⟨L36, [], H⟩ : St) 34 V5 0 1 false (.one .bh (.sl 2 (List.map e_api_Segment x4.list_))) (some 20)) ?_
 refine yr 2 ⟨L42, [], H⟩ ?_
 obtain ⟨x7, h8, hB10⟩ := bind1_inv hB10
 let E8 : EN := (23, .one .top (.rd .bh .bh [.int .i64 x7.Start_, .int .i64 x7.Pad_] 0))
 refine o_one ⟨L42 ++ [E8], [], H⟩ (st_ix (X := X) (⟨L42, [], H⟩ : St) 34 65 2 h8 e_api_Segment .bh (some 23) (by kernel_rfl) (by kernel_rfl) (by kernel_rfl) (by kernel_rfl)) ?_
 refine yr 4 ⟨L42 ++ [E8, (24, .one .top (.rd .bh .bh [.int .i64 x7.Start_, .int .i64 x7.Pad_] 0)), (25, vi x7.Start_), (26, vb (decide (p1 ≤ x7.Start_))), (27, vb (decide (p1 ≤ x7.Start_)))], [], H⟩ ?_
 cases hB10
 exact ye
 refine o_eq (congrArg (fun q => (⟨L30 ++ [(14, vb q), (15, vb q)], [], H⟩ : St)) h6) ?_
 refine yr 12 ⟨L30 ++ [(14, vF), (15, vF), (16, vN), (17, vN), (18, vN), (19, vN), (20, vN), (21, vN), (22, vN), (23, vN), (24, vN), (25, vN), (26, vN), (27, vF)], [], H⟩ ?_
 cases hB10
 exact ye
 refine w_join (α := (Int × Heap)) (fun x => (⟨[E9, (1, vi x.1), E4], [], x.2⟩ : St)) (fun x => ranges_Builder_Mark_j1 i1 o2 p2 x.1 x.2 = some Hr) ?_ ?_
 rintro ⟨j11, H12⟩ hF
 replace hF : ranges_Builder_Mark_j1 i1 o2 p2 j11 H12 = some Hr := hF
 let E18 : EN := (74, .agg [(.top, .int .i64 j11), (.top, .int .i64 p2)])
 let L27 : List EN := [E9, (1, vi j11), E4]
 let L33 : List EN := L27 ++ [(67, vo i1 o2), (68, vo i1 o2), (69, vo i1 o2), (70, vo i1 o2)]
 let L40 : List EN := L33 ++ [(71, .one .top .junk), (72, vi j11), (73, vi p2), E18, (75, .one .top .junk)]
 let L41 : List EN := L27 ++ [E11, E12, (49, vo i1 o2)]
 let L46 : List EN := L40 ++ [(76, .one .top .junk), (77, vo i1 o2), (78, vo i1 o2)]
 unfold ranges_Builder_Mark_j1 at hF
 refine w_seq ?_
 refine w_seq ?_
 obtain ⟨x13, V14, hF⟩ := bind1_inv hF
 replace V14 := hgetT_inv V14
 let E10 : EN := (7, vi (x13.list_.length : Int))
 let E13 : EN := (50, .one .bh (.sl 2 (List.map e_api_Segment x13.list_)))
 let E14 : EN := (51, vi (x13.list_.length : Int))
 let E15 : EN := (58, .one .bh (.sl 2 (List.map e_api_Segment x13.list_)))
 let E17 : EN := (71, .one (.own 1) (.sl 2 (List.map e_api_Segment x13.list_)))
 let L31 : List EN := L27 ++ [E10, (52, vi (x13.list_.length : Int))]
 let L37 : List EN := L31 ++ [(53, vT), (54, vT), (55, vo i1 o2), (56, vo i1 o2), (57, vo i1 o2)]
 let L43 : List EN := L37 ++ [E15, (59, vi (x13.list_.length : Int)), (60, vi (IntKind.wrap .i64 ((x13.list_.length : Int) - 1)))]
 refine w_regO ⟨L27 ++ [E10], [], H12⟩ ?_ ?_
 refine yr 2 ⟨L27 ++ [E11, E12], [], H12⟩ ?_
 refine yr 1 ⟨L41, [], H12⟩ ?_
 refine o_one ⟨L41 ++ [E13], [], H12⟩ (yd (X := X) (⟨L41, [], H12⟩ : St) 34 V14 0 1 false (.one .bh (.sl 2 (List.map e_api_Segment x13.list_))) (some 50)) ?_
 refine o_one ⟨L41 ++ [E13, E14], [], H12⟩ (yl (⟨L41 ++ [E13], [], H12⟩ : St) x13.list_ e_api_Segment (some 51)) ?_
 refine yr 1 ⟨L27 ++ [E10, E11, E12, (49, vo i1 o2), E13, E14], [], H12⟩ ?_
 exact ye
 refine w_seq ?_
 obtain ⟨w18, hB19, hF⟩ := bind1_inv hF
 refine w_regO ⟨L27 ++ [(66, vb w18)], [], H12⟩ ?_ ?_
 refine yr 3 ⟨L31 ++ [(53, vb (decide ((x13.list_.length : Int) > 0))), (54, vb (decide ((x13.list_.length : Int) > 0)))], [], H12⟩ ?_
 rcases if_inv hB19 with ⟨h15, hB19⟩ | ⟨h15, hB19⟩
 refine o_eq (congrArg (fun q => (⟨L31 ++ [(53, vb q), (54, vb q)], [], H12⟩ : St)) h15) ?_
 refine yr 3 ⟨L37, [], H12⟩ ?_
 refine o_one ⟨L37 ++ [E15], [], H12⟩ (yd (X := X) (⟨L37, [], H12⟩ : St) 34 V14 0 1 false (.one .bh (.sl 2 (List.map e_api_Segment x13.list_))) (some 58)) ?_
 refine yr 2 ⟨L43, [], H12⟩ ?_
 obtain ⟨x16, h17, hB19⟩ := bind1_inv hB19
 let E16 : EN := (61, .one .top (.rd .bh .bh [.int .i64 x16.Start_, .int .i64 x16.Pad_] 0))
 refine o_one ⟨L43 ++ [E16], [], H12⟩ (st_ix (X := X) (⟨L43, [], H12⟩ : St) 34 65 2 h17 e_api_Segment .bh (some 61) (by kernel_rfl) (by kernel_rfl) (by kernel_rfl) (by kernel_rfl)) ?_
 refine yr 5 ⟨L43 ++ [E16, (62, .one .top (.rd .bh .bh [.int .i64 x16.Start_, .int .i64 x16.Pad_] 1)), (63, vi x16.Pad_), (64, vi p2), (65, vb (x16.Pad_ == p2)), (66, vb (x16.Pad_ == p2))], [], H12⟩ ?_
 cases hB19
 exact ye
 refine o_eq (congrArg (fun q => (⟨L31 ++ [(53, vb q), (54, vb q)], [], H12⟩ : St)) h15) ?_
 refine yr 12 ⟨L31 ++ [(53, vF), (54, vF), (55, vN), (56, vN), (57, vN), (58, vN), (59, vN), (60, vN), (61, vN), (62, vN), (63, vN), (64, vN), (65, vN), (66, vF)], [], H12⟩ ?_
 cases hB19
 exact ye
 rcases if_inv hF with ⟨h20, hF⟩ | ⟨h20, hF⟩
 refine yT h20 ⟨[], [], H12⟩ ?_
 refine w_ret ?_
 obtain e0 := some1_inv hF
 subst e0
 exact yi (vN)
 refine yF h20 ⟨L27, [], H12⟩ ?_
 refine w_skip ?_
 obtain ⟨v21, h22, hF⟩ := bind1_inv hF
 let W1 : Heap := hset H12 i1 o2 [((.own 1), .sl 2 (List.map e_api_Segment v21))]
 let E19 : EN := (76, .one (.own 1) (.sl 2 (List.map e_api_Segment v21)))
 obtain ⟨H23, h24, hF⟩ := bnd_inv hF
 have V25 : hget H23 i1 o2 1 = some (o_ranges_Builder (T_ranges_Builder.mk v21)) := by rw [← h24]; exact hset_get V14 rfl
 refine w_regO ⟨[], [], H23⟩ ?_ ?_
 refine yr 4 ⟨L33, [], H12⟩ ?_
 refine o_one ⟨L33 ++ [E17], [], (hset H12 i1 o2 [(.top, .junk)])⟩ (st_ldT (X := X) (h2 := (hset H12 i1 o2 [(.top, .junk)])) (⟨L33, [], H12⟩ : St) 34 V14 0 1 false (.one (.own 1) (.sl 2 (List.map e_api_Segment x13.list_))) (some 71) (by kernel_rfl) (by kernel_rfl) (by kernel_rfl) (by kernel_rfl) (by kernel_rfl) (hset_sub0 (k := 0) V14 (Nat.le_of_ble_eq_true rfl)) (by kernel_rfl)) ?_
 refine yr 4 ⟨L33 ++ [E17, (72, vi j11), (73, vi p2), E18, (75, .one (.own 1) (.sl 2 (List.map e_api_Segment ([(T_api_Segment.mk j11 p2)] : List T_api_Segment))))], [], (hset H12 i1 o2 [(.top, .junk)])⟩ ?_
 refine o_one ⟨L40 ++ [E19], [], (hset H12 i1 o2 [(.top, .junk)])⟩ (st_app (X := X) (⟨L40, [], (hset H12 i1 o2 [(.top, .junk)])⟩ : St) 16 h22 34 34 65 2 0 [(.top, .int .i64 0), (.top, .int .i64 0)] (.own 1) e_api_Segment 0 (some 76) (by kernel_rfl) (by kernel_rfl) (by kernel_rfl) (by kernel_rfl) (by kernel_rfl) (by kernel_rfl) (by kernel_rfl) (by kernel_rfl) (by kernel_rfl) (fun _ => rfl) (by kernel_rfl)) ?_
 refine yr 2 ⟨L40 ++ [E19, (77, vo i1 o2), (78, vo i1 o2)], [], (hset H12 i1 o2 [(.top, .junk)])⟩ ?_
 refine o_one ⟨L46, [], W1⟩ (st_st (X := X) (lc := []) (h2 := W1) (⟨L46, [], (hset H12 i1 o2 [(.top, .junk)])⟩ : St) 34 (hset_get V14 rfl) 0 1 (.one (.own 1) (.sl 2 (List.map e_api_Segment v21))) (by kernel_rfl) (by kernel_rfl) (by kernel_rfl) (by kernel_rfl) (by kernel_rfl) (by kernel_rfl) (hset_sub V14 rfl (Nat.le_of_ble_eq_true rfl)) (by kernel_rfl)) ?_
 refine o_eq (congrArg (fun q => (⟨L46, [], q⟩ : St)) h24) ?_
 exact ye
 obtain e0 := some1_inv hF
 subst e0
 exact yi (vN)
 rcases if_inv hF with ⟨h26, hF⟩ | ⟨h26, hF⟩
 refine yT h26 ⟨[E9, E4, E20], [], H⟩ ?_
 refine w_seq ?_
 obtain ⟨x27, h28, hF⟩ := bind1_inv hF
 let E22 : EN := (34, .one .top (.rd .bh .bh [.int .i64 x27.Start_, .int .i64 x27.Pad_] 0))
 let L29 : List EN := [E9, (1, vi x27.Start_), E4, E20]
 let L32 : List EN := L29 ++ [(37, vo i1 o2), (38, vo i1 o2), (39, vo i1 o2), (40, vo i1 o2)]
 let L35 : List EN := L32 ++ [(41, .one .top .junk), E24, E25]
 let L45 : List EN := L35 ++ [(44, .one .top .junk), (45, vo i1 o2), (46, vo i1 o2)]
 refine w_regO ⟨L29, [], H⟩ ?_ ?_
 refine yr 3 ⟨L38, [], H⟩ ?_
 refine o_one ⟨L38 ++ [E21], [], H⟩ (yd (X := X) (⟨L38, [], H⟩ : St) 34 V5 0 1 false (.one .bh (.sl 2 (List.map e_api_Segment x4.list_))) (some 31)) ?_
 refine yr 2 ⟨L38 ++ L44, [], H⟩ ?_
 refine o_one ⟨L38 ++ L44 ++ [E22], [], H⟩ (st_ix (X := X) (⟨L38 ++ L44, [], H⟩ : St) 34 65 2 h28 e_api_Segment .bh (some 34) (by kernel_rfl) (by kernel_rfl) (by kernel_rfl) (by kernel_rfl)) ?_
 refine yr 3 ⟨L29 ++ [(28, vo i1 o2), (29, vo i1 o2), (30, vo i1 o2)] ++ L44 ++ [E22, (35, .one .top (.rd .bh .bh [.int .i64 x27.Start_, .int .i64 x27.Pad_] 0)), (36, vi x27.Start_)], [], H⟩ ?_
 exact ye
 obtain ⟨v29, h30, hF⟩ := bind1_inv hF
 let W2 : Heap := hset H i1 o2 [((.own 1), .sl 2 (List.map e_api_Segment v29))]
 let E26 : EN := (44, .one (.own 1) (.sl 2 (List.map e_api_Segment v29)))
 obtain ⟨H31, h32, hF⟩ := bnd_inv hF
 have V33 : hget H31 i1 o2 1 = some (o_ranges_Builder (T_ranges_Builder.mk v29)) := by rw [← h32]; exact hset_get V5 rfl
 refine w_regO ⟨[E9, (1, vi x27.Start_), E4], [], H31⟩ ?_ ?_
 refine yr 4 ⟨L32, [], H⟩ ?_
 refine o_one ⟨L32 ++ [E23], [], (hset H i1 o2 [(.top, .junk)])⟩ (st_ldT (X := X) (h2 := (hset H i1 o2 [(.top, .junk)])) (⟨L32, [], H⟩ : St) 34 V5 0 1 false (.one (.own 1) (.sl 2 (List.map e_api_Segment x4.list_))) (some 41) (by kernel_rfl) (by kernel_rfl) (by kernel_rfl) (by kernel_rfl) (by kernel_rfl) (hset_sub0 (k := 0) V5 (Nat.le_of_ble_eq_true rfl)) (by kernel_rfl)) ?_
 refine yr 2 ⟨L32 ++ [E23, E24, E25], [], (hset H i1 o2 [(.top, .junk)])⟩ ?_
 refine o_one ⟨L35 ++ [E26], [], (hset H i1 o2 [(.top, .junk)])⟩ (st_cut (X := X) (⟨L35, [], (hset H i1 o2 [(.top, .junk)])⟩ : St) 34 65 2 h30 e_api_Segment (.own 1) none (some (.tmp 43)) (some 44) (by kernel_rfl) (by kernel_rfl) (by kernel_rfl) (by kernel_rfl) (show bndIs X.P _ _ none _ from rfl) (show (opnd X.P (⟨L35, [], (hset H i1 o2 [(.top, .junk)])⟩ : St) 0 (.tmp 43)).bind natOf = some (IntKind.wrap .i64 ((x4.list_.length : Int) - 1)) by kernel_rfl) (by kernel_rfl)) ?_
 refine yr 2 ⟨L35 ++ [E26, (45, vo i1 o2), (46, vo i1 o2)], [], (hset H i1 o2 [(.top, .junk)])⟩ ?_
 refine o_one ⟨L45, [], W2⟩ (st_st (X := X) (lc := []) (h2 := W2) (⟨L45, [], (hset H i1 o2 [(.top, .junk)])⟩ : St) 34 (hset_get V5 rfl) 0 1 (.one (.own 1) (.sl 2 (List.map e_api_Segment v29))) (by kernel_rfl) (by kernel_rfl) (by kernel_rfl) (by kernel_rfl) (by kernel_rfl) (by kernel_rfl) (hset_sub V5 rfl (Nat.le_of_ble_eq_true rfl)) (by kernel_rfl)) ?_
 refine o_eq (congrArg (fun q => (⟨L45, [], q⟩ : St)) h32) ?_
 exact ye
 exact ⟨(x27.Start_, H31), hF, (by kernel_rfl)⟩
 refine yF h26 ⟨L34, [], H⟩ ?_
 refine w_skip ?_
 exact ⟨(p1, H), hF, (by kernel_rfl)⟩
noncomputable def emit_New (H : Heap) : Option (Heap × Ptr) :=
  bnd H.length fun i2 =>
  bnd (new_emit_Code H (T_emit_Code.mk ([] : List Int) ([] : List T_api_Fixup) (T_ranges_Builder.mk ([] : List T_api_Segment)) ([] : List Int) ([] : List Int) 0 0 0)) fun H1 =>
  bind1 (get_emit_Code H1 i2 0) fun x5 =>
  bind1 (ranges_Builder_Mark H1 (Ptr.at i2 2) 0 (-1)) fun H8 =>
  some (H8, (Ptr.at i2 0))
theorem ok_emit_New (H : Heap) {ra : Ptr} {Hr : Heap} (hF : emit_New H = some (Hr, ra)) : evS X 10 [] H = some (.one .top (Ptr.av ra), Hr) := by
 let E2 : EN := (2, .agg (List.replicate 5 (.top, .junk) ++ [(.top, .int .i64 0), (.top, .int .i64 0), (.top, .int .i64 0)]))
 refine yf Try.func10 false ⟨[], [], H⟩ ?_
 unfold emit_New at hF
 refine ysg ⟨[], [], H⟩ ?_
 refine w_seq ?_
 obtain ⟨i2, h4, hF⟩ := bnd_inv hF
 let E1 : EN := (1, vo i2 0)
 let L3 : List EN := [E1, (4, vo i2 0), (5, vo i2 0), (6, vo i2 2)]
 obtain ⟨H1, h3, hF⟩ := bnd_inv hF
 refine w_regO ⟨[E1], [], H1⟩ ?_ ?_
 refine yr 1 ⟨[(2, .agg [((.own 1), .sl 1 (List.map (eI .u32) ([] : List Int))), ((.own 1), .sl 4 (List.map e_api_Fixup ([] : List T_api_Fixup))), ((.own 1), .sl 2 (List.map e_api_Segment ([] : List T_api_Segment))), ((.own 1), .sl 1 (List.map (eI .i64) ([] : List Int))), ((.own 1), .sl 1 (List.map (eI .i64) ([] : List Int))), (.top, .int .i64 0), (.top, .int .i64 0), (.top, .int .i64 0)])], [], H⟩ ?_
 refine o_one ⟨[E2, (3, vo H.length 0)], [], (H ++ [[((.own 1), .sl 1 (List.map (eI .u32) ([] : List Int))), ((.own 1), .sl 4 (List.map e_api_Fixup ([] : List T_api_Fixup))), ((.own 1), .sl 2 (List.map e_api_Segment ([] : List T_api_Segment))), ((.own 1), .sl 1 (List.map (eI .i64) ([] : List Int))), ((.own 1), .sl 1 (List.map (eI .i64) ([] : List Int))), (.top, .int .i64 0), (.top, .int .i64 0), (.top, .int .i64 0)]])⟩ (by kernel_rfl) ?_
 refine o_eq (congr2 (fun q u => (⟨[E2, (3, vo q 0)], [], u⟩ : St)) h4 h3) ?_
 refine yr 1 ⟨[E1, E2, (3, vo i2 0)], [], H1⟩ ?_
 exact ye
 refine w_seq ?_
 obtain ⟨x5, V6, hF⟩ := bind1_inv hF
 replace V6 := hgetT_inv V6
 obtain ⟨H8, c7, hF⟩ := bind1_inv hF
 refine w_regO ⟨[E1], [], H8⟩ ?_ ?_
 refine yr 2 ⟨[E1, (4, vo i2 0), (5, vo i2 0)], [], H1⟩ ?_
 refine yr 1 ⟨L3, [], H1⟩ ?_
 refine o_one ⟨L3 ++ [(7, vN)], [], H8⟩ (yc (some 7) false false (⟨L3, [], H1⟩ : St) (ok_ranges_Builder_Mark H1 c7)) ?_
 exact ye
 refine ysg ⟨[(0, vo i2 0)], [], H8⟩ ?_
 refine w_ret ?_
 obtain ⟨e0, e1⟩ := some2_inv hF
 subst e0
 subst e1
 exact yi (vo i2 0)
noncomputable def instr_Shape_j7 (p0 : Int) (j14 : Bool) : Option (Int) :=
  if j14 = true then (some 7)
  else (if (p0 == 28) = true then (some 8)
  else (some (-1)))
noncomputable def instr_Shape_j6 (p0 : Int) (j12 : Bool) : Option (Int) :=
  if j12 = true then (some 6)
  else (if (p0 == 22) = true then (instr_Shape_j7 p0 (p0 == 22))
  else (instr_Shape_j7 p0 (p0 == 23)))
noncomputable def instr_Shape_j8 (p0 : Int) (j19 : Bool) : Option (Int) :=
  instr_Shape_j6 p0 j19
noncomputable def instr_Shape_j9 (p0 : Int) (j21 : Bool) : Option (Int) :=
  instr_Shape_j8 p0 j21
noncomputable def instr_Shape_j10 (p0 : Int) (j23 : Bool) : Option (Int) :=
  instr_Shape_j9 p0 j23
noncomputable def instr_Shape_j11 (p0 : Int) (j25 : Bool) : Option (Int) :=
  instr_Shape_j10 p0 j25
noncomputable def instr_Shape_j5 (p0 : Int) (j10 : Bool) : Option (Int) :=
  if j10 = true then (some 5)
  else (if (p0 == 24) = true then (instr_Shape_j6 p0 (p0 == 24))
  else (if (p0 == 25) = true then (instr_Shape_j8 p0 (p0 == 25))
  else (if (p0 == 27) = true then (instr_Shape_j9 p0 (p0 == 27))
  else (if (p0 == 29) = true then (instr_Shape_j10 p0 (p0 == 29))
  else (if (p0 == 31) = true then (instr_Shape_j11 p0 (p0 == 31))
  else (instr_Shape_j11 p0 (p0 == 32)))))))
noncomputable def instr_Shape_j12 (p0 : Int) (j28 : Bool) : Option (Int) :=
  instr_Shape_j5 p0 j28
noncomputable def instr_Shape_j13 (p0 : Int) (j30 : Bool) : Option (Int) :=
  instr_Shape_j12 p0 j30
noncomputable def instr_Shape_j14 (p0 : Int) (j32 : Bool) : Option (Int) :=
  instr_Shape_j13 p0 j32
noncomputable def instr_Shape_j15 (p0 : Int) (j34 : Bool) : Option (Int) :=
  instr_Shape_j14 p0 j34
noncomputable def instr_Shape_j16 (p0 : Int) (j36 : Bool) : Option (Int) :=
  instr_Shape_j15 p0 j36
noncomputable def instr_Shape_j17 (p0 : Int) (j38 : Bool) : Option (Int) :=
  instr_Shape_j16 p0 j38
noncomputable def instr_Shape_j18 (p0 : Int) (j40 : Bool) : Option (Int) :=
  instr_Shape_j17 p0 j40
noncomputable def instr_Shape_j19 (p0 : Int) (j42 : Bool) : Option (Int) :=
  instr_Shape_j18 p0 j42
noncomputable def instr_Shape_j20 (p0 : Int) (j44 : Bool) : Option (Int) :=
  instr_Shape_j19 p0 j44
noncomputable def instr_Shape_j21 (p0 : Int) (j46 : Bool) : Option (Int) :=
  instr_Shape_j20 p0 j46
noncomputable def instr_Shape_j4 (p0 : Int) (j8 : Bool) : Option (Int) :=
  if j8 = true then (some 4)
  else (if (p0 == 6) = true then (instr_Shape_j5 p0 (p0 == 6))
  else (if (p0 == 7) = true then (instr_Shape_j12 p0 (p0 == 7))
  else (if (p0 == 8) = true then (instr_Shape_j13 p0 (p0 == 8))
  else (if (p0 == 9) = true then (instr_Shape_j14 p0 (p0 == 9))
  else (if (p0 == 10) = true then (instr_Shape_j15 p0 (p0 == 10))
  else (if (p0 == 11) = true then (instr_Shape_j16 p0 (p0 == 11))
  else (if (p0 == 12) = true then (instr_Shape_j17 p0 (p0 == 12))
  else (if (p0 == 13) = true then (instr_Shape_j18 p0 (p0 == 13))
  else (if (p0 == 14) = true then (instr_Shape_j19 p0 (p0 == 14))
  else (if (p0 == 15) = true then (instr_Shape_j20 p0 (p0 == 15))
  else (if (p0 == 16) = true then (instr_Shape_j21 p0 (p0 == 16))
  else (instr_Shape_j21 p0 (p0 == 17)))))))))))))
noncomputable def instr_Shape_j22 (p0 : Int) (j49 : Bool) : Option (Int) :=
  instr_Shape_j4 p0 j49
noncomputable def instr_Shape_j3 (p0 : Int) (j6 : Bool) : Option (Int) :=
  if j6 = true then (some 3)
  else (if (p0 == 4) = true then (instr_Shape_j4 p0 (p0 == 4))
  else (if (p0 == 34) = true then (instr_Shape_j22 p0 (p0 == 34))
  else (instr_Shape_j22 p0 (p0 == 26))))
noncomputable def instr_Shape_j23 (p0 : Int) (j52 : Bool) : Option (Int) :=
  instr_Shape_j3 p0 j52
noncomputable def instr_Shape_j2 (p0 : Int) (j4 : Bool) : Option (Int) :=
  if j4 = true then (some 2)
  else (if (p0 == 5) = true then (instr_Shape_j3 p0 (p0 == 5))
  else (if (p0 == 18) = true then (instr_Shape_j23 p0 (p0 == 18))
  else (instr_Shape_j23 p0 (p0 == 19))))
noncomputable def instr_Shape_j24 (p0 : Int) (j55 : Bool) : Option (Int) :=
  instr_Shape_j2 p0 j55
noncomputable def instr_Shape_j1 (p0 : Int) (j2 : Bool) : Option (Int) :=
  if j2 = true then (some 1)
  else (if (p0 == 3) = true then (instr_Shape_j2 p0 (p0 == 3))
  else (if (p0 == 30) = true then (instr_Shape_j24 p0 (p0 == 30))
  else (instr_Shape_j24 p0 (p0 == 33))))
noncomputable def instr_Shape_j25 (p0 : Int) (j58 : Bool) : Option (Int) :=
  instr_Shape_j1 p0 j58
noncomputable def instr_Shape  (p0 : Int) : Option (Int) :=
  if (p0 == 1) = true then (some 0)
  else (if (p0 == 2) = true then (instr_Shape_j1 p0 (p0 == 2))
  else (if (p0 == 20) = true then (instr_Shape_j25 p0 (p0 == 20))
  else (instr_Shape_j25 p0 (p0 == 21))))
theorem ok_instr_Shape (H : Heap) {p0 : Int} {ra : Int} (hF : instr_Shape p0 = some ra) : evS X 57 [.one .top (.int .i64 p0)] H = some (.one .top (.int .i64 ra), H) := by
 let E1 : EN := (3, vi p0)
 let S2 : St := ⟨[E1], [], H⟩
 let S3 : St := ⟨[], [], H⟩
 let S4 : St := ⟨[E1, (6, vb (p0 == 2))], [], H⟩
 let S5 : St := ⟨[E1, (10, vb (p0 == 3))], [], H⟩
 let S6 : St := ⟨[E1, (14, vb (p0 == 5))], [], H⟩
 let S7 : St := ⟨[E1, (18, vb (p0 == 4))], [], H⟩
 let S8 : St := ⟨[E1, (22, vb (p0 == 6))], [], H⟩
 let S9 : St := ⟨[E1, (35, vb (p0 == 24))], [], H⟩
 let S10 : St := ⟨[E1, (42, vb (p0 == 22))], [], H⟩
 let S11 : St := ⟨[E1, (35, vb (p0 == 25))], [], H⟩
 let S12 : St := ⟨[E1, (35, vb (p0 == 27))], [], H⟩
 let S13 : St := ⟨[E1, (35, vb (p0 == 29))], [], H⟩
 let S14 : St := ⟨[E1, (35, vb (p0 == 31))], [], H⟩
 let S15 : St := ⟨[E1, (22, vb (p0 == 7))], [], H⟩
 let S16 : St := ⟨[E1, (22, vb (p0 == 8))], [], H⟩
 let S17 : St := ⟨[E1, (22, vb (p0 == 9))], [], H⟩
 let S18 : St := ⟨[E1, (22, vb (p0 == 10))], [], H⟩
 let S19 : St := ⟨[E1, (22, vb (p0 == 11))], [], H⟩
 let S20 : St := ⟨[E1, (22, vb (p0 == 12))], [], H⟩
 let S21 : St := ⟨[E1, (22, vb (p0 == 13))], [], H⟩
 let S22 : St := ⟨[E1, (22, vb (p0 == 14))], [], H⟩
 let S23 : St := ⟨[E1, (22, vb (p0 == 15))], [], H⟩
 let S24 : St := ⟨[E1, (22, vb (p0 == 16))], [], H⟩
 let S25 : St := ⟨[E1, (18, vb (p0 == 34))], [], H⟩
 let S26 : St := ⟨[E1, (14, vb (p0 == 18))], [], H⟩
 let S27 : St := ⟨[E1, (10, vb (p0 == 30))], [], H⟩
 let S28 : St := ⟨[E1, (6, vb (p0 == 20))], [], H⟩
 refine yf Try.func57 true ⟨[(0, vi p0)], [], H⟩ ?_
 unfold instr_Shape at hF
 refine ysg ⟨[(0, vi p0)], [], H⟩ ?_
 refine w_seq ?_
 refine ysg S2 ?_
 refine w_block ?_
 refine ysg ⟨[E1, (4, vb (p0 == 1))], [], H⟩ ?_
 rcases if_inv hF with ⟨h1, hF⟩ | ⟨h1, hF⟩
 refine yT h1 S3 ?_
 refine ysg ⟨[(2, vi 0)], [], H⟩ ?_
 refine w_ret ?_
 obtain e0 := some1_inv hF
 subst e0
 exact yp (vi 0)
 refine yF h1 S2 ?_
 refine w_seq ?_
 refine ysg S4 ?_
 refine w_join (α := (Bool)) (fun x => (⟨[E1, (6, vb x)], [], H⟩ : St)) (fun x => instr_Shape_j1 p0 x = some ra) ?_ ?_
 rintro j2 hF
 replace hF : instr_Shape_j1 p0 j2 = some ra := hF
 unfold instr_Shape_j1 at hF
 rcases if_inv hF with ⟨h3, hF⟩ | ⟨h3, hF⟩
 refine yT h3 S3 ?_
 refine ysg ⟨[(2, vi 1)], [], H⟩ ?_
 refine w_ret ?_
 obtain e0 := some1_inv hF
 subst e0
 exact yp (vi 1)
 refine yF h3 S2 ?_
 refine w_seq ?_
 refine ysg S5 ?_
 refine w_join (α := (Bool)) (fun x => (⟨[E1, (10, vb x)], [], H⟩ : St)) (fun x => instr_Shape_j2 p0 x = some ra) ?_ ?_
 rintro j4 hF
 replace hF : instr_Shape_j2 p0 j4 = some ra := hF
 unfold instr_Shape_j2 at hF
 rcases if_inv hF with ⟨h5, hF⟩ | ⟨h5, hF⟩
 refine yT h5 S3 ?_
 refine ysg ⟨[(2, vi 2)], [], H⟩ ?_
 refine w_ret ?_
 obtain e0 := some1_inv hF
 subst e0
 exact yp (vi 2)
 refine yF h5 S2 ?_
 refine w_seq ?_
 refine ysg S6 ?_
 refine w_join (α := (Bool)) (fun x => (⟨[E1, (14, vb x)], [], H⟩ : St)) (fun x => instr_Shape_j3 p0 x = some ra) ?_ ?_
 rintro j6 hF
 replace hF : instr_Shape_j3 p0 j6 = some ra := hF
 unfold instr_Shape_j3 at hF
 rcases if_inv hF with ⟨h7, hF⟩ | ⟨h7, hF⟩
 refine yT h7 S3 ?_
 refine ysg ⟨[(2, vi 3)], [], H⟩ ?_
 refine w_ret ?_
 obtain e0 := some1_inv hF
 subst e0
 exact yp (vi 3)
 refine yF h7 S2 ?_
 refine w_seq ?_
 refine ysg S7 ?_
 refine w_join (α := (Bool)) (fun x => (⟨[E1, (18, vb x)], [], H⟩ : St)) (fun x => instr_Shape_j4 p0 x = some ra) ?_ ?_
 rintro j8 hF
 replace hF : instr_Shape_j4 p0 j8 = some ra := hF
 unfold instr_Shape_j4 at hF
 rcases if_inv hF with ⟨h9, hF⟩ | ⟨h9, hF⟩
 refine yT h9 S3 ?_
 refine ysg ⟨[(2, vi 4)], [], H⟩ ?_
 refine w_ret ?_
 obtain e0 := some1_inv hF
 subst e0
 exact yp (vi 4)
 refine yF h9 S2 ?_
 refine w_seq ?_
 refine ysg S8 ?_
 refine w_join (α := (Bool)) (fun x => (⟨[E1, (22, vb x)], [], H⟩ : St)) (fun x => instr_Shape_j5 p0 x = some ra) ?_ ?_
 rintro j10 hF
 replace hF : instr_Shape_j5 p0 j10 = some ra := hF
 unfold instr_Shape_j5 at hF
 rcases if_inv hF with ⟨h11, hF⟩ | ⟨h11, hF⟩
 refine yT h11 S3 ?_
 refine ysg ⟨[(2, vi 5)], [], H⟩ ?_
 refine w_ret ?_
 obtain e0 := some1_inv hF
 subst e0
 exact yp (vi 5)
 refine yF h11 S2 ?_
 refine w_seq ?_
 refine ysg S9 ?_
 refine w_join (α := (Bool)) (fun x => (⟨[E1, (35, vb x)], [], H⟩ : St)) (fun x => instr_Shape_j6 p0 x = some ra) ?_ ?_
 rintro j12 hF
 replace hF : instr_Shape_j6 p0 j12 = some ra := hF
 unfold instr_Shape_j6 at hF
 rcases if_inv hF with ⟨h13, hF⟩ | ⟨h13, hF⟩
 refine yT h13 S3 ?_
 refine ysg ⟨[(2, vi 6)], [], H⟩ ?_
 refine w_ret ?_
 obtain e0 := some1_inv hF
 subst e0
 exact yp (vi 6)
 refine yF h13 S2 ?_
 refine w_seq ?_
 refine ysg S10 ?_
 refine w_join (α := (Bool)) (fun x => (⟨[E1, (42, vb x)], [], H⟩ : St)) (fun x => instr_Shape_j7 p0 x = some ra) ?_ ?_
 rintro j14 hF
 replace hF : instr_Shape_j7 p0 j14 = some ra := hF
 unfold instr_Shape_j7 at hF
 rcases if_inv hF with ⟨h15, hF⟩ | ⟨h15, hF⟩
 refine yT h15 S3 ?_
 refine ysg ⟨[(2, vi 7)], [], H⟩ ?_
 refine w_ret ?_
 obtain e0 := some1_inv hF
 subst e0
 exact yp (vi 7)
 refine yF h15 S2 ?_
 refine ysg ⟨[(45, vb (p0 == 28))], [], H⟩ ?_
 rcases if_inv hF with ⟨h16, hF⟩ | ⟨h16, hF⟩
 refine yT h16 S3 ?_
 refine ysg ⟨[(2, vi 8)], [], H⟩ ?_
 refine w_ret ?_
 obtain e0 := some1_inv hF
 subst e0
 exact yp (vi 8)
 refine yF h16 S3 ?_
 refine w_skip ?_
 refine ysg ⟨[(2, vi (-1))], [], H⟩ ?_
 refine w_ret ?_
 obtain e0 := some1_inv hF
 subst e0
 exact yp (vi (-1))
 rcases if_inv hF with ⟨h17, hF⟩ | ⟨h17, hF⟩
 refine yT h17 S10 ?_
 refine w_skip ?_
 exact ⟨(p0 == 22), hF, (by kernel_rfl)⟩
 refine yF h17 S2 ?_
 refine yg ⟨[E1, (42, vb (p0 == 23))], [], H⟩ ?_
 exact ⟨(p0 == 23), hF, (by kernel_rfl)⟩
 rcases if_inv hF with ⟨h18, hF⟩ | ⟨h18, hF⟩
 refine yT h18 S9 ?_
 refine w_skip ?_
 exact ⟨(p0 == 24), hF, (by kernel_rfl)⟩
 refine yF h18 S2 ?_
 refine ysg S11 ?_
 refine w_join (α := (Bool)) (fun x => (⟨[E1, (35, vb x)], [], H⟩ : St)) (fun x => instr_Shape_j8 p0 x = some ra) ?_ ?_
 rintro j19 hF
 replace hF : instr_Shape_j8 p0 j19 = some ra := hF
 unfold instr_Shape_j8 at hF
 exact ⟨j19, hF, (by kernel_rfl)⟩
 rcases if_inv hF with ⟨h20, hF⟩ | ⟨h20, hF⟩
 refine yT h20 S11 ?_
 refine w_skip ?_
 exact ⟨(p0 == 25), hF, (by kernel_rfl)⟩
 refine yF h20 S2 ?_
 refine ysg S12 ?_
 refine w_join (α := (Bool)) (fun x => (⟨[E1, (35, vb x)], [], H⟩ : St)) (fun x => instr_Shape_j9 p0 x = some ra) ?_ ?_
 rintro j21 hF
 replace hF : instr_Shape_j9 p0 j21 = some ra := hF
 unfold instr_Shape_j9 at hF
 exact ⟨j21, hF, (by kernel_rfl)⟩
 rcases if_inv hF with ⟨h22, hF⟩ | ⟨h22, hF⟩
 refine yT h22 S12 ?_
 refine w_skip ?_
 exact ⟨(p0 == 27), hF, (by kernel_rfl)⟩
 refine yF h22 S2 ?_
 refine ysg S13 ?_
 refine w_join (α := (Bool)) (fun x => (⟨[E1, (35, vb x)], [], H⟩ : St)) (fun x => instr_Shape_j10 p0 x = some ra) ?_ ?_
 rintro j23 hF
 replace hF : instr_Shape_j10 p0 j23 = some ra := hF
 unfold instr_Shape_j10 at hF
 exact ⟨j23, hF, (by kernel_rfl)⟩
 rcases if_inv hF with ⟨h24, hF⟩ | ⟨h24, hF⟩
 refine yT h24 S13 ?_
 refine w_skip ?_
 exact ⟨(p0 == 29), hF, (by kernel_rfl)⟩
 refine yF h24 S2 ?_
 refine ysg S14 ?_
 refine w_join (α := (Bool)) (fun x => (⟨[E1, (35, vb x)], [], H⟩ : St)) (fun x => instr_Shape_j11 p0 x = some ra) ?_ ?_
 rintro j25 hF
 replace hF : instr_Shape_j11 p0 j25 = some ra := hF
 unfold instr_Shape_j11 at hF
 exact ⟨j25, hF, (by kernel_rfl)⟩
 rcases if_inv hF with ⟨h26, hF⟩ | ⟨h26, hF⟩
 refine yT h26 S14 ?_
 refine w_skip ?_
 exact ⟨(p0 == 31), hF, (by kernel_rfl)⟩
 refine yF h26 S2 ?_
 refine yg ⟨[E1, (35, vb (p0 == 32))], [], H⟩ ?_
 exact ⟨(p0 == 32), hF, (by kernel_rfl)⟩
 rcases if_inv hF with ⟨h27, hF⟩ | ⟨h27, hF⟩
 refine yT h27 S8 ?_
 refine w_skip ?_
 exact ⟨(p0 == 6), hF, (by kernel_rfl)⟩
 refine yF h27 S2 ?_
 refine ysg S15 ?_
 refine w_join (α := (Bool)) (fun x => (⟨[E1, (22, vb x)], [], H⟩ : St)) (fun x => instr_Shape_j12 p0 x = some ra) ?_ ?_
 rintro j28 hF
 replace hF : instr_Shape_j12 p0 j28 = some ra := hF
 unfold instr_Shape_j12 at hF
 exact ⟨j28, hF, (by kernel_rfl)⟩
 rcases if_inv hF with ⟨h29, hF⟩ | ⟨h29, hF⟩
 refine yT h29 S15 ?_
 refine w_skip ?_
 exact ⟨(p0 == 7), hF, (by kernel_rfl)⟩
 refine yF h29 S2 ?_
 refine ysg S16 ?_
 refine w_join (α := (Bool)) (fun x => (⟨[E1, (22, vb x)], [], H⟩ : St)) (fun x => instr_Shape_j13 p0 x = some ra) ?_ ?_
 rintro j30 hF
 replace hF : instr_Shape_j13 p0 j30 = some ra := hF
 unfold instr_Shape_j13 at hF
 exact ⟨j30, hF, (by kernel_rfl)⟩
 rcases if_inv hF with ⟨h31, hF⟩ | ⟨h31, hF⟩
 refine yT h31 S16 ?_
 refine w_skip ?_
 exact ⟨(p0 == 8), hF, (by kernel_rfl)⟩
 refine yF h31 S2 ?_
 refine ysg S17 ?_
 refine w_join (α := (Bool)) (fun x => (⟨[E1, (22, vb x)], [], H⟩ : St)) (fun x => instr_Shape_j14 p0 x = some ra) ?_ ?_
 rintro j32 hF
 replace hF : instr_Shape_j14 p0 j32 = some ra := hF
 unfold instr_Shape_j14 at hF
 exact ⟨j32, hF, (by kernel_rfl)⟩
 rcases if_inv hF with ⟨h33, hF⟩ | ⟨h33, hF⟩
 refine yT h33 S17 ?_
 refine w_skip ?_
 exact ⟨(p0 == 9), hF, (by kernel_rfl)⟩
 refine yF h33 S2 ?_
 refine ysg S18 ?_
 refine w_join (α := (Bool)) (fun x => (⟨[E1, (22, vb x)], [], H⟩ : St)) (fun x => instr_Shape_j15 p0 x = some ra) ?_ ?_
 rintro j34 hF
 replace hF : instr_Shape_j15 p0 j34 = some ra := hF
 unfold instr_Shape_j15 at hF
 exact ⟨j34, hF, (by kernel_rfl)⟩
 rcases if_inv hF with ⟨h35, hF⟩ | ⟨h35, hF⟩
 refine yT h35 S18 ?_
 refine w_skip ?_
 exact ⟨(p0 == 10), hF, (by kernel_rfl)⟩
 refine yF h35 S2 ?_
 refine ysg S19 ?_
 refine w_join (α := (Bool)) (fun x => (⟨[E1, (22, vb x)], [], H⟩ : St)) (fun x => instr_Shape_j16 p0 x = some ra) ?_ ?_
 rintro j36 hF
 replace hF : instr_Shape_j16 p0 j36 = some ra := hF
 unfold instr_Shape_j16 at hF
 exact ⟨j36, hF, (by kernel_rfl)⟩
 rcases if_inv hF with ⟨h37, hF⟩ | ⟨h37, hF⟩
 refine yT h37 S19 ?_
 refine w_skip ?_
 exact ⟨(p0 == 11), hF, (by kernel_rfl)⟩
 refine yF h37 S2 ?_
 refine ysg S20 ?_
 refine w_join (α := (Bool)) (fun x => (⟨[E1, (22, vb x)], [], H⟩ : St)) (fun x => instr_Shape_j17 p0 x = some ra) ?_ ?_
 rintro j38 hF
 replace hF : instr_Shape_j17 p0 j38 = some ra := hF
 unfold instr_Shape_j17 at hF
 exact ⟨j38, hF, (by kernel_rfl)⟩
 rcases if_inv hF with ⟨h39, hF⟩ | ⟨h39, hF⟩
 refine yT h39 S20 ?_
 refine w_skip ?_
 exact ⟨(p0 == 12), hF, (by kernel_rfl)⟩
 refine yF h39 S2 ?_
 refine ysg S21 ?_
 refine w_join (α := (Bool)) (fun x => (⟨[E1, (22, vb x)], [], H⟩ : St)) (fun x => instr_Shape_j18 p0 x = some ra) ?_ ?_
 rintro j40 hF
 replace hF : instr_Shape_j18 p0 j40 = some ra := hF
 unfold instr_Shape_j18 at hF
 exact ⟨j40, hF, (by kernel_rfl)⟩
 rcases if_inv hF with ⟨h41, hF⟩ | ⟨h41, hF⟩
 refine yT h41 S21 ?_
 refine w_skip ?_
 exact ⟨(p0 == 13), hF, (by kernel_rfl)⟩
 refine yF h41 S2 ?_
 refine ysg S22 ?_
 refine w_join (α := (Bool)) (fun x => (⟨[E1, (22, vb x)], [], H⟩ : St)) (fun x => instr_Shape_j19 p0 x = some ra) ?_ ?_
 rintro j42 hF
 replace hF : instr_Shape_j19 p0 j42 = some ra := hF
 unfold instr_Shape_j19 at hF
 exact ⟨j42, hF, (by kernel_rfl)⟩
 rcases if_inv hF with ⟨h43, hF⟩ | ⟨h43, hF⟩
 refine yT h43 S22 ?_
 refine w_skip ?_
 exact ⟨(p0 == 14), hF, (by kernel_rfl)⟩
 refine yF h43 S2 ?_
 refine ysg S23 ?_
 refine w_join (α := (Bool)) (fun x => (⟨[E1, (22, vb x)], [], H⟩ : St)) (fun x => instr_Shape_j20 p0 x = some ra) ?_ ?_
 rintro j44 hF
 replace hF : instr_Shape_j20 p0 j44 = some ra := hF
 unfold instr_Shape_j20 at hF
 exact ⟨j44, hF, (by kernel_rfl)⟩
 rcases if_inv hF with ⟨h45, hF⟩ | ⟨h45, hF⟩
 refine yT h45 S23 ?_
 refine w_skip ?_
 exact ⟨(p0 == 15), hF, (by kernel_rfl)⟩
 refine yF h45 S2 ?_
 refine ysg S24 ?_
 refine w_join (α := (Bool)) (fun x => (⟨[E1, (22, vb x)], [], H⟩ : St)) (fun x => instr_Shape_j21 p0 x = some ra) ?_ ?_
 rintro j46 hF
 replace hF : instr_Shape_j21 p0 j46 = some ra := hF
 unfold instr_Shape_j21 at hF
 exact ⟨j46, hF, (by kernel_rfl)⟩
 rcases if_inv hF with ⟨h47, hF⟩ | ⟨h47, hF⟩
 refine yT h47 S24 ?_
 refine w_skip ?_
 exact ⟨(p0 == 16), hF, (by kernel_rfl)⟩
 refine yF h47 S2 ?_
 refine yg ⟨[E1, (22, vb (p0 == 17))], [], H⟩ ?_
 exact ⟨(p0 == 17), hF, (by kernel_rfl)⟩
 rcases if_inv hF with ⟨h48, hF⟩ | ⟨h48, hF⟩
 refine yT h48 S7 ?_
 refine w_skip ?_
 exact ⟨(p0 == 4), hF, (by kernel_rfl)⟩
 refine yF h48 S2 ?_
 refine ysg S25 ?_
 refine w_join (α := (Bool)) (fun x => (⟨[E1, (18, vb x)], [], H⟩ : St)) (fun x => instr_Shape_j22 p0 x = some ra) ?_ ?_
 rintro j49 hF
 replace hF : instr_Shape_j22 p0 j49 = some ra := hF
 unfold instr_Shape_j22 at hF
 exact ⟨j49, hF, (by kernel_rfl)⟩
 rcases if_inv hF with ⟨h50, hF⟩ | ⟨h50, hF⟩
 refine yT h50 S25 ?_
 refine w_skip ?_
 exact ⟨(p0 == 34), hF, (by kernel_rfl)⟩
 refine yF h50 S2 ?_
 refine yg ⟨[E1, (18, vb (p0 == 26))], [], H⟩ ?_
 exact ⟨(p0 == 26), hF, (by kernel_rfl)⟩
 rcases if_inv hF with ⟨h51, hF⟩ | ⟨h51, hF⟩
 refine yT h51 S6 ?_
 refine w_skip ?_
 exact ⟨(p0 == 5), hF, (by kernel_rfl)⟩
 refine yF h51 S2 ?_
 refine ysg S26 ?_
 refine w_join (α := (Bool)) (fun x => (⟨[E1, (14, vb x)], [], H⟩ : St)) (fun x => instr_Shape_j23 p0 x = some ra) ?_ ?_
 rintro j52 hF
 replace hF : instr_Shape_j23 p0 j52 = some ra := hF
 unfold instr_Shape_j23 at hF
 exact ⟨j52, hF, (by kernel_rfl)⟩
 rcases if_inv hF with ⟨h53, hF⟩ | ⟨h53, hF⟩
 refine yT h53 S26 ?_
 refine w_skip ?_
 exact ⟨(p0 == 18), hF, (by kernel_rfl)⟩
 refine yF h53 S2 ?_
 refine yg ⟨[E1, (14, vb (p0 == 19))], [], H⟩ ?_
 exact ⟨(p0 == 19), hF, (by kernel_rfl)⟩
 rcases if_inv hF with ⟨h54, hF⟩ | ⟨h54, hF⟩
 refine yT h54 S5 ?_
 refine w_skip ?_
 exact ⟨(p0 == 3), hF, (by kernel_rfl)⟩
 refine yF h54 S2 ?_
 refine ysg S27 ?_
 refine w_join (α := (Bool)) (fun x => (⟨[E1, (10, vb x)], [], H⟩ : St)) (fun x => instr_Shape_j24 p0 x = some ra) ?_ ?_
 rintro j55 hF
 replace hF : instr_Shape_j24 p0 j55 = some ra := hF
 unfold instr_Shape_j24 at hF
 exact ⟨j55, hF, (by kernel_rfl)⟩
 rcases if_inv hF with ⟨h56, hF⟩ | ⟨h56, hF⟩
 refine yT h56 S27 ?_
 refine w_skip ?_
 exact ⟨(p0 == 30), hF, (by kernel_rfl)⟩
 refine yF h56 S2 ?_
 refine yg ⟨[E1, (10, vb (p0 == 33))], [], H⟩ ?_
 exact ⟨(p0 == 33), hF, (by kernel_rfl)⟩
 rcases if_inv hF with ⟨h57, hF⟩ | ⟨h57, hF⟩
 refine yT h57 S4 ?_
 refine w_skip ?_
 exact ⟨(p0 == 2), hF, (by kernel_rfl)⟩
 refine yF h57 S2 ?_
 refine ysg S28 ?_
 refine w_join (α := (Bool)) (fun x => (⟨[E1, (6, vb x)], [], H⟩ : St)) (fun x => instr_Shape_j25 p0 x = some ra) ?_ ?_
 rintro j58 hF
 replace hF : instr_Shape_j25 p0 j58 = some ra := hF
 unfold instr_Shape_j25 at hF
 exact ⟨j58, hF, (by kernel_rfl)⟩
 rcases if_inv hF with ⟨h59, hF⟩ | ⟨h59, hF⟩
 refine yT h59 S28 ?_
 refine w_skip ?_
 exact ⟨(p0 == 20), hF, (by kernel_rfl)⟩
 refine yF h59 S2 ?_
 refine yg ⟨[E1, (6, vb (p0 == 21))], [], H⟩ ?_
 exact ⟨(p0 == 21), hF, (by kernel_rfl)⟩
noncomputable def instr_reg  (p0 : Int) : Option (Bool) :=
  some ((decide (p0 ≥ 0)) && (decide (p0 < 16)))
theorem ok_instr_reg (H : Heap) {p0 : Int} {ra : Bool} (hF : instr_reg p0 = some ra) : evS X 59 [.one .top (.int .i64 p0)] H = some (.one .top (.bool ra), H) := by
 let E1 : EN := (0, vi p0)
 let E2 : EN := (3, vi p0)
 refine yf Try.func59 true ⟨[E1], [], H⟩ ?_
 unfold instr_reg at hF
 refine ysg ⟨[E1], [], H⟩ ?_
 refine yso ⟨[(2, vb ((decide (p0 ≥ 0)) && (decide (p0 < 16))))], [], H⟩ ?_ ?_
 refine yr 3 ⟨[E1, E2, (4, vb (decide (p0 ≥ 0))), (5, vb (decide (p0 ≥ 0)))], [], H⟩ ?_
 rcases bool_cases (decide (p0 ≥ 0)) with h1 | h1
 refine o_eq (congrArg (fun q => (⟨[E1, E2, (4, vb q), (5, vb q)], [], H⟩ : St)) h1) ?_
 refine yr 4 ⟨[E1, (2, vb (decide (p0 < 16))), E2, (4, vT), (5, vT), (6, vi p0), (7, vb (decide (p0 < 16))), (8, vb (decide (p0 < 16)))], [], H⟩ ?_
 refine o_eq2 (congrArg (fun q0 => (⟨[(2, vb q0)], [], H⟩ : St)) (show (decide (p0 < 16)) = ((decide (p0 ≥ 0)) && (decide (p0 < 16))) by simp [h1])) ?_
 exact ye
 refine o_eq (congrArg (fun q => (⟨[E1, E2, (4, vb q), (5, vb q)], [], H⟩ : St)) h1) ?_
 refine yr 4 ⟨[E1, (2, vF), E2, (4, vF), (5, vF), (6, vN), (7, vN), (8, vF)], [], H⟩ ?_
 refine o_eq2 (congrArg (fun q0 => (⟨[(2, vb q0)], [], H⟩ : St)) (show false = ((decide (p0 ≥ 0)) && (decide (p0 < 16))) by simp [h1])) ?_
 exact ye
 refine w_ret ?_
 obtain e0 := some1_inv hF
 subst e0
 exact yp (vb ((decide (p0 ≥ 0)) && (decide (p0 < 16))))
noncomputable def word_Fits  (p0 : Int) (p1 : Int) : Option (Bool) :=
  if (decide (p1 < 1)) = true then (some false)
  else (bind1 (shlI .i64 (-1) (IntKind.wrap .i64 ((if 40 < p1 then 40 else p1) - 1))) fun v2 =>
  bind1 (if (decide (p0 ≥ v2)) = true then (bind1 (shlI .i64 1 (IntKind.wrap .i64 ((if 40 < p1 then 40 else p1) - 1))) fun v5 =>
  some (decide (p0 < v5))) else (some false)) fun w7 =>
  some w7)
theorem ok_word_Fits (H : Heap) {p0 : Int} {p1 : Int} {ra : Bool} (hF : word_Fits p0 p1 = some ra) : evS X 53 [.one .top (.int .i64 p0), .one .top (.int .i64 p1)] H = some (.one .top (.bool ra), H) := by
 let E1 : EN := (0, vi p0)
 let E2 : EN := (5, vi (IntKind.wrap .i64 ((if 40 < p1 then 40 else p1) - 1)))
 let L3 : List EN := [E2, (11, vi p0), (12, vi (IntKind.wrap .i64 ((if 40 < p1 then 40 else p1) - 1)))]
 let L5 : List EN := [(14, vT), (15, vT), (16, vi p0), (17, vi (IntKind.wrap .i64 ((if 40 < p1 then 40 else p1) - 1)))]
 let S6 : St := ⟨[E1, (1, vi p1)], [], H⟩
 refine yf Try.func53 true S6 ?_
 unfold word_Fits at hF
 refine ysg S6 ?_
 refine w_seq ?_
 refine ysg ⟨[E1, (1, vi p1), (7, vb (decide (p1 < 1)))], [], H⟩ ?_
 rcases if_inv hF with ⟨h1, hF⟩ | ⟨h1, hF⟩
 refine yT h1 ⟨[], [], H⟩ ?_
 refine ysg ⟨[(4, vF)], [], H⟩ ?_
 refine w_ret ?_
 obtain e0 := some1_inv hF
 subst e0
 exact yp (vF)
 refine yF h1 S6 ?_
 refine w_skip ?_
 refine ysg ⟨[E1, E2], [], H⟩ ?_
 refine w_seq ?_
 obtain ⟨v2, h3, hF⟩ := bind1_inv hF
 let L4 : List EN := [E1] ++ L3 ++ [(13, vi v2)]
 obtain ⟨w7, hB8, hF⟩ := bind1_inv hF
 refine w_regO ⟨[(4, vb w7)], [], H⟩ ?_ ?_
 refine yr 2 ⟨[E1] ++ L3, [], H⟩ ?_
 refine o_one ⟨L4, [], H⟩ (st_binI (⟨[E1] ++ L3, [], H⟩ : St) .i64 h3 (ev_shl (P := X.P) (ty := 3) (x := (.const (.int .i64 (-1)))) (y := (.tmp 12)) (m := .top) (m' := .top) (k := .i64) (k' := .i64) (a := (-1)) (b := (IntKind.wrap .i64 ((if 40 < p1 then 40 else p1) - 1)))) (some 13) (by kernel_rfl) (by kernel_rfl)) ?_
 refine yr 2 ⟨L4 ++ [(14, vb (decide (p0 ≥ v2))), (15, vb (decide (p0 ≥ v2)))], [], H⟩ ?_
 rcases if_inv hB8 with ⟨h4, hB8⟩ | ⟨h4, hB8⟩
 refine o_eq (congrArg (fun q => (⟨L4 ++ [(14, vb q), (15, vb q)], [], H⟩ : St)) h4) ?_
 refine yr 2 ⟨L4 ++ L5, [], H⟩ ?_
 obtain ⟨v5, h6, hB8⟩ := bind1_inv hB8
 refine o_one ⟨L4 ++ L5 ++ [(18, vi v5)], [], H⟩ (st_binI (⟨L4 ++ L5, [], H⟩ : St) .i64 h6 (ev_shl (P := X.P) (ty := 3) (x := (.const (.int .i64 (1)))) (y := (.tmp 17)) (m := .top) (m' := .top) (k := .i64) (k' := .i64) (a := 1) (b := (IntKind.wrap .i64 ((if 40 < p1 then 40 else p1) - 1)))) (some 18) (by kernel_rfl) (by kernel_rfl)) ?_
 refine yr 3 ⟨[E1, (4, vb (decide (p0 < v5)))] ++ L3 ++ [(13, vi v2)] ++ L5 ++ [(18, vi v5), (19, vb (decide (p0 < v5))), (20, vb (decide (p0 < v5)))], [], H⟩ ?_
 cases hB8
 exact ye
 refine o_eq (congrArg (fun q => (⟨L4 ++ [(14, vb q), (15, vb q)], [], H⟩ : St)) h4) ?_
 refine yr 6 ⟨[E1, (4, vF)] ++ L3 ++ [(13, vi v2), (14, vF), (15, vF), (16, vN), (17, vN), (18, vN), (19, vN), (20, vF)], [], H⟩ ?_
 cases hB8
 exact ye
 refine w_ret ?_
 obtain e0 := some1_inv hF
 subst e0
 exact yp (vb w7)
noncomputable def word_Within  (p0 : Int) (p1 : Int) : Option (Bool) :=
  bind1 (if (decide (p1 ≥ 0)) = true then (if (decide (p0 ≥ 0)) = true then (bind1 (shlI .i64 1 (if 40 < p1 then 40 else p1)) fun v3 =>
  some (decide (p0 < v3))) else (some false)) else (some false)) fun w5 =>
  some w5
theorem ok_word_Within (H : Heap) {p0 : Int} {p1 : Int} {ra : Bool} (hF : word_Within p0 p1 = some ra) : evS X 61 [.one .top (.int .i64 p0), .one .top (.int .i64 p1)] H = some (.one .top (.bool ra), H) := by
 let L1 : List EN := [(0, vi p0), (1, vi p1)]
 let L2 : List EN := L1 ++ [(5, vi p1)]
 let L3 : List EN := [(6, vT), (7, vT), (8, vi p0)]
 let L4 : List EN := [(9, vT), (10, vT), (11, vT), (12, vi p0), (13, vi p1), (14, vi (if 40 < p1 then 40 else p1))]
 let L5 : List EN := [(10, vF), (11, vF), (12, vN), (13, vN), (14, vN), (15, vN), (16, vN), (17, vF)]
 refine yf Try.func61 true ⟨L1, [], H⟩ ?_
 unfold word_Within at hF
 refine ysg ⟨L1, [], H⟩ ?_
 refine w_seq ?_
 obtain ⟨w5, hB6, hF⟩ := bind1_inv hF
 refine w_regO ⟨[(4, vb w5)], [], H⟩ ?_ ?_
 refine yr 3 ⟨L2 ++ [(6, vb (decide (p1 ≥ 0))), (7, vb (decide (p1 ≥ 0)))], [], H⟩ ?_
 rcases if_inv hB6 with ⟨h1, hB6⟩ | ⟨h1, hB6⟩
 refine o_eq (congrArg (fun q => (⟨L2 ++ [(6, vb q), (7, vb q)], [], H⟩ : St)) h1) ?_
 refine yr 4 ⟨L2 ++ L3 ++ [(9, vb (decide (p0 ≥ 0))), (10, vb (decide (p0 ≥ 0))), (11, vb (decide (p0 ≥ 0)))], [], H⟩ ?_
 rcases if_inv hB6 with ⟨h2, hB6⟩ | ⟨h2, hB6⟩
 refine o_eq (congrArg (fun q => (⟨L2 ++ L3 ++ [(9, vb q), (10, vb q), (11, vb q)], [], H⟩ : St)) h2) ?_
 refine yr 3 ⟨L2 ++ L3 ++ L4, [], H⟩ ?_
 obtain ⟨v3, h4, hB6⟩ := bind1_inv hB6
 refine o_one ⟨L2 ++ L3 ++ L4 ++ [(15, vi v3)], [], H⟩ (st_binI (⟨L2 ++ L3 ++ L4, [], H⟩ : St) .i64 h4 (ev_shl (P := X.P) (ty := 3) (x := (.const (.int .i64 (1)))) (y := (.tmp 14)) (m := .top) (m' := .top) (k := .i64) (k' := .i64) (a := 1) (b := (if 40 < p1 then 40 else p1))) (some 15) (by kernel_rfl) (by kernel_rfl)) ?_
 refine yr 3 ⟨L1 ++ [(4, vb (decide (p0 < v3))), (5, vi p1)] ++ L3 ++ L4 ++ [(15, vi v3), (16, vb (decide (p0 < v3))), (17, vb (decide (p0 < v3)))], [], H⟩ ?_
 cases hB6
 exact ye
 refine o_eq (congrArg (fun q => (⟨L2 ++ L3 ++ [(9, vb q), (10, vb q), (11, vb q)], [], H⟩ : St)) h2) ?_
 refine yr 7 ⟨L1 ++ [(4, vF), (5, vi p1)] ++ L3 ++ [(9, vF)] ++ L5, [], H⟩ ?_
 cases hB6
 exact ye
 refine o_eq (congrArg (fun q => (⟨L2 ++ [(6, vb q), (7, vb q)], [], H⟩ : St)) h1) ?_
 refine yr 11 ⟨L1 ++ [(4, vF), (5, vi p1), (6, vF), (7, vF), (8, vN), (9, vN)] ++ L5, [], H⟩ ?_
 cases hB6
 exact ye
 refine w_ret ?_
 obtain e0 := some1_inv hF
 subst e0
 exact yp (vb w5)
noncomputable def instr_imm_j2 (p0 : T_instr_Instr) (p1 : Int) (j5 : Bool) : Option (Bool) :=
  if j5 = true then (bind1 (word_Within p0.Imm_ 16) fun r7 =>
  some r7)
  else (if (p1 == 7) = true then (bind1 (word_Fits p0.Imm_ 24) fun r10 =>
  some r10)
  else (some (p0.Imm_ == 0)))
noncomputable def instr_imm_j3 (p0 : T_instr_Instr) (p1 : Int) (j13 : Bool) : Option (Bool) :=
  instr_imm_j2 p0 p1 j13
noncomputable def instr_imm_j1 (p0 : T_instr_Instr) (p1 : Int) (j1 : Bool) : Option (Bool) :=
  if j1 = true then (bind1 (word_Fits p0.Imm_ 16) fun r3 =>
  some r3)
  else (if (p1 == 2) = true then (instr_imm_j2 p0 p1 (p1 == 2))
  else (if (p1 == 4) = true then (instr_imm_j3 p0 p1 (p1 == 4))
  else (instr_imm_j3 p0 p1 (p1 == 8))))
noncomputable def instr_imm  (p0 : T_instr_Instr) (p1 : Int) : Option (Bool) :=
  if (p1 == 1) = true then (instr_imm_j1 p0 p1 (p1 == 1))
  else (instr_imm_j1 p0 p1 (p1 == 3))
theorem ok_instr_imm (H : Heap) {p0 : T_instr_Instr} {p1 : Int} {ra : Bool} (hF : instr_imm p0 p1 = some ra) : evS X 60 [.agg (m0_instr_Instr p0), .one .top (.int .i64 p1)] H = some (.one .top (.bool ra), H) := by
 let E1 : EN := (2, vl 2 0)
 let B2 : EB := (2, (m0_instr_Instr p0))
 let E3 : EN := (9, vl 2 4)
 let E4 : EN := (10, vi p0.Imm_)
 let E5 : EN := (16, vl 2 4)
 let E6 : EN := (17, vi p0.Imm_)
 let E7 : EN := (21, vl 2 4)
 let E8 : EN := (22, vi p0.Imm_)
 let L9 : List EN := [E1, (5, vi p1)]
 let S10 : St := ⟨[E1], [B2], H⟩
 let S11 : St := ⟨[E1, E3, E4], [B2], H⟩
 let S12 : St := ⟨[E1, E5, E6], [B2], H⟩
 let S13 : St := ⟨[E1, E7, E8], [B2], H⟩
 refine yf Try.func60 true ⟨[(0, .agg (m0_instr_Instr p0)), (1, vi p1)], [], H⟩ ?_
 unfold instr_imm at hF
 refine ysg ⟨[(1, vi p1), E1], [B2], H⟩ ?_
 refine w_seq ?_
 refine ysg ⟨L9, [B2], H⟩ ?_
 refine w_block ?_
 refine w_seq ?_
 refine ysg ⟨L9 ++ [(6, vb (p1 == 1))], [B2], H⟩ ?_
 refine w_join (α := (Bool)) (fun x => (⟨L9 ++ [(6, vb x)], [B2], H⟩ : St)) (fun x => instr_imm_j1 p0 p1 x = some ra) ?_ ?_
 rintro j1 hF
 replace hF : instr_imm_j1 p0 p1 j1 = some ra := hF
 unfold instr_imm_j1 at hF
 rcases if_inv hF with ⟨h2, hF⟩ | ⟨h2, hF⟩
 refine yT h2 S10 ?_
 refine w_seq ?_
 obtain ⟨r3, c4, hF⟩ := bind1_inv hF
 refine w_regO ⟨[(4, vb r3)], [], H⟩ ?_ ?_
 refine yr 2 S11 ?_
 refine o_one ⟨[E1, E3, E4, (11, vb r3)], [B2], H⟩ (yc (some 11) true false S11 (ok_word_Fits H c4)) ?_
 refine yr 1 ⟨[E1, (4, vb r3), E3, E4, (11, vb r3)], [B2], H⟩ ?_
 exact ye
 refine w_ret ?_
 obtain e0 := some1_inv hF
 subst e0
 exact yp (vb r3)
 refine yF h2 ⟨L9, [B2], H⟩ ?_
 refine w_seq ?_
 refine ysg ⟨L9 ++ [(12, vb (p1 == 2))], [B2], H⟩ ?_
 refine w_join (α := (Bool)) (fun x => (⟨L9 ++ [(12, vb x)], [B2], H⟩ : St)) (fun x => instr_imm_j2 p0 p1 x = some ra) ?_ ?_
 rintro j5 hF
 replace hF : instr_imm_j2 p0 p1 j5 = some ra := hF
 unfold instr_imm_j2 at hF
 rcases if_inv hF with ⟨h6, hF⟩ | ⟨h6, hF⟩
 refine yT h6 S10 ?_
 refine w_seq ?_
 obtain ⟨r7, c8, hF⟩ := bind1_inv hF
 refine w_regO ⟨[(4, vb r7)], [], H⟩ ?_ ?_
 refine yr 2 S12 ?_
 refine o_one ⟨[E1, E5, E6, (18, vb r7)], [B2], H⟩ (yc (some 18) true false S12 (ok_word_Within H c8)) ?_
 refine yr 1 ⟨[E1, (4, vb r7), E5, E6, (18, vb r7)], [B2], H⟩ ?_
 exact ye
 refine w_ret ?_
 obtain e0 := some1_inv hF
 subst e0
 exact yp (vb r7)
 refine yF h6 ⟨L9, [B2], H⟩ ?_
 refine ysg ⟨[E1, (19, vb (p1 == 7))], [B2], H⟩ ?_
 rcases if_inv hF with ⟨h9, hF⟩ | ⟨h9, hF⟩
 refine yT h9 S10 ?_
 refine w_seq ?_
 obtain ⟨r10, c11, hF⟩ := bind1_inv hF
 refine w_regO ⟨[(4, vb r10)], [], H⟩ ?_ ?_
 refine yr 2 S13 ?_
 refine o_one ⟨[E1, E7, E8, (23, vb r10)], [B2], H⟩ (yc (some 23) true false S13 (ok_word_Fits H c11)) ?_
 refine yr 1 ⟨[E1, (4, vb r10), E7, E8, (23, vb r10)], [B2], H⟩ ?_
 exact ye
 refine w_ret ?_
 obtain e0 := some1_inv hF
 subst e0
 exact yp (vb r10)
 refine yF h9 S10 ?_
 refine w_skip ?_
 refine ysg ⟨[(4, vb (p0.Imm_ == 0))], [], H⟩ ?_
 refine w_ret ?_
 obtain e0 := some1_inv hF
 subst e0
 exact yp (vb (p0.Imm_ == 0))
 rcases if_inv hF with ⟨h12, hF⟩ | ⟨h12, hF⟩
 refine yT h12 ⟨L9 ++ [(12, vb (p1 == 2))], [B2], H⟩ ?_
 refine w_skip ?_
 exact ⟨(p1 == 2), hF, (by kernel_rfl)⟩
 refine yF h12 ⟨L9, [B2], H⟩ ?_
 refine ysg ⟨L9 ++ [(12, vb (p1 == 4))], [B2], H⟩ ?_
 refine w_join (α := (Bool)) (fun x => (⟨L9 ++ [(12, vb x)], [B2], H⟩ : St)) (fun x => instr_imm_j3 p0 p1 x = some ra) ?_ ?_
 rintro j13 hF
 replace hF : instr_imm_j3 p0 p1 j13 = some ra := hF
 unfold instr_imm_j3 at hF
 exact ⟨j13, hF, (by kernel_rfl)⟩
 rcases if_inv hF with ⟨h14, hF⟩ | ⟨h14, hF⟩
 refine yT h14 ⟨L9 ++ [(12, vb (p1 == 4))], [B2], H⟩ ?_
 refine w_skip ?_
 exact ⟨(p1 == 4), hF, (by kernel_rfl)⟩
 refine yF h14 ⟨L9, [B2], H⟩ ?_
 refine yg ⟨L9 ++ [(12, vb (p1 == 8))], [B2], H⟩ ?_
 exact ⟨(p1 == 8), hF, (by kernel_rfl)⟩
 rcases if_inv hF with ⟨h15, hF⟩ | ⟨h15, hF⟩
 refine yT h15 ⟨L9 ++ [(6, vb (p1 == 1))], [B2], H⟩ ?_
 refine w_skip ?_
 exact ⟨(p1 == 1), hF, (by kernel_rfl)⟩
 refine yF h15 ⟨L9, [B2], H⟩ ?_
 refine yg ⟨L9 ++ [(6, vb (p1 == 3))], [B2], H⟩ ?_
 exact ⟨(p1 == 3), hF, (by kernel_rfl)⟩
noncomputable def instr_Check_j2 (j19 : Bool) : Option (Int) :=
  if (!j19) = true then (some 20)
  else (some 0)
noncomputable def instr_Check_j4 (j25 : Bool) : Option (Int) :=
  instr_Check_j2 j25
noncomputable def instr_Check_j5 (j28 : Bool) : Option (Int) :=
  instr_Check_j4 j28
noncomputable def instr_Check_j3 (p0 : T_instr_Instr) (r1 : Int) (j24 : Bool) : Option (Int) :=
  if j24 = true then (instr_Check_j4 ((p0.C_ == 0) && (p0.B_ == 0)))
  else (if (r1 == 5) = true then (instr_Check_j5 true)
  else (instr_Check_j5 (p0.C_ == 0)))
noncomputable def instr_Check_j6 (p0 : T_instr_Instr) (r1 : Int) (j31 : Bool) : Option (Int) :=
  instr_Check_j3 p0 r1 j31
noncomputable def instr_Check_j1 (p0 : T_instr_Instr) (r1 : Int) (j18 : Bool) : Option (Int) :=
  if j18 = true then (instr_Check_j2 ((p0.C_ == 0) && ((p0.A_ == 0) && (p0.B_ == 0))))
  else (if (r1 == 1) = true then (instr_Check_j3 p0 r1 (r1 == 1))
  else (if (r1 == 2) = true then (instr_Check_j6 p0 r1 (r1 == 2))
  else (instr_Check_j6 p0 r1 (r1 == 6))))
noncomputable def instr_Check_j7 (p0 : T_instr_Instr) (r1 : Int) (j34 : Bool) : Option (Int) :=
  instr_Check_j1 p0 r1 j34
noncomputable def instr_Check  (p0 : T_instr_Instr) : Option (Int) :=
  bind1 (instr_Shape p0.Op_) fun r1 =>
  if (decide (r1 < 0)) = true then (some 21)
  else (bind1 (instr_reg p0.A_) fun r4 =>
  bind1 (if (!r4) = true then (some true) else (bind1 (instr_reg p0.B_) fun r7 =>
  if (!r7) = true then (some true) else (bind1 (instr_reg p0.C_) fun r10 =>
  if (!r10) = true then (some true) else (bind1 (instr_imm p0 r1) fun r13 =>
  some (!r13))))) fun w15 =>
  if w15 = true then (some 20)
  else (if (r1 == 0) = true then (instr_Check_j1 p0 r1 (r1 == 0))
  else (if (r1 == 7) = true then (instr_Check_j7 p0 r1 (r1 == 7))
  else (instr_Check_j7 p0 r1 (r1 == 8)))))
theorem ok_instr_Check (H : Heap) {p0 : T_instr_Instr} {ra : Int} (hF : instr_Check p0 = some ra) : evS X 56 [.agg (m0_instr_Instr p0)] H = some (.one .top (.int .i64 ra), H) := by
 let E1 : EN := (1, vl 1 0)
 let B2 : EB := (1, (m0_instr_Instr p0))
 let E3 : EN := (5, vl 1 0)
 let E4 : EN := (6, vi p0.Op_)
 let E5 : EN := (11, vi p0.A_)
 let E6 : EN := (4, vb (p0.C_ == 0))
 let L8 : List EN := [E1, E6]
 let L15 : List EN := [(40, vT), (41, vT), (42, vl 1 1), (43, vi p0.A_)]
 let L17 : List EN := [(25, vT), (26, vT), (27, vN), (28, vN), (29, vN), (30, vN), (31, vT)]
 let L18 : List EN := [(19, vT), (20, vT), (21, vN), (22, vN), (23, vN), (24, vN)] ++ L17
 let L19 : List EN := [(45, vF), (46, vF), (47, vN), (48, vN), (49, vN), (50, vF)]
 let S20 : St := ⟨[E1, E3, E4], [B2], H⟩
 let S21 : St := ⟨[], [], H⟩
 refine yf Try.func56 true ⟨[(0, .agg (m0_instr_Instr p0))], [], H⟩ ?_
 unfold instr_Check at hF
 refine ysg ⟨[E1], [B2], H⟩ ?_
 refine w_seq ?_
 obtain ⟨r1, c2, hF⟩ := bind1_inv hF
 let L7 : List EN := [E1, (3, vi r1)]
 let L10 : List EN := L8 ++ [(35, vi r1)]
 refine w_regO ⟨L7, [B2], H⟩ ?_ ?_
 refine yr 2 S20 ?_
 refine o_one ⟨[E1, E3, E4, (7, vi r1)], [B2], H⟩ (yc (some 7) true false S20 (ok_instr_Shape H c2)) ?_
 refine yr 1 ⟨L7 ++ [E3, E4, (7, vi r1)], [B2], H⟩ ?_
 exact ye
 refine w_seq ?_
 refine ysg ⟨L7 ++ [(9, vb (decide (r1 < 0)))], [B2], H⟩ ?_
 rcases if_inv hF with ⟨h3, hF⟩ | ⟨h3, hF⟩
 refine yT h3 S21 ?_
 refine ysg ⟨[(2, vi 21)], [], H⟩ ?_
 refine w_ret ?_
 obtain e0 := some1_inv hF
 subst e0
 exact yp (vi 21)
 refine yF h3 ⟨L7, [B2], H⟩ ?_
 refine w_skip ?_
 refine w_seq ?_
 refine w_seq ?_
 obtain ⟨r4, c5, hF⟩ := bind1_inv hF
 let L9 : List EN := L7 ++ [(10, vl 1 1), E5, (12, vb r4)]
 let L11 : List EN := L9 ++ [(13, vF), (14, vF), (15, vl 1 2), (16, vi p0.B_)]
 obtain ⟨w15, hB16, hF⟩ := bind1_inv hF
 refine w_regO ⟨L7 ++ [(31, vb w15)], [B2], H⟩ ?_ ?_
 refine yr 2 ⟨L7 ++ [(10, vl 1 1), E5], [B2], H⟩ ?_
 refine o_one ⟨L9, [B2], H⟩ (yc (some 12) true false (⟨L7 ++ [(10, vl 1 1), E5], [B2], H⟩ : St) (ok_instr_reg H c5)) ?_
 refine yr 2 ⟨L9 ++ [(13, vb (!r4)), (14, vb (!r4))], [B2], H⟩ ?_
 rcases if_inv hB16 with ⟨h6, hB16⟩ | ⟨h6, hB16⟩
 refine o_eq (congrArg (fun q => (⟨L9 ++ [(13, vb q), (14, vb q)], [B2], H⟩ : St)) h6) ?_
 refine yr 17 ⟨L9 ++ [(13, vT), (14, vT), (15, vN), (16, vN), (17, vN), (18, vN)] ++ L18, [B2], H⟩ ?_
 cases hB16
 exact ye
 refine o_eq (congrArg (fun q => (⟨L9 ++ [(13, vb q), (14, vb q)], [B2], H⟩ : St)) h6) ?_
 refine yr 2 ⟨L11, [B2], H⟩ ?_
 obtain ⟨r7, c8, hB16⟩ := bind1_inv hB16
 let L12 : List EN := L11 ++ [(17, vb r7)]
 let L13 : List EN := L12 ++ [(18, vF), (19, vF), (20, vF), (21, vl 1 3), (22, vi p0.C_)]
 refine o_one ⟨L12, [B2], H⟩ (yc (some 17) true false (⟨L11, [B2], H⟩ : St) (ok_instr_reg H c8)) ?_
 refine yr 3 ⟨L12 ++ [(18, vb (!r7)), (19, vb (!r7)), (20, vb (!r7))], [B2], H⟩ ?_
 rcases if_inv hB16 with ⟨h9, hB16⟩ | ⟨h9, hB16⟩
 refine o_eq (congrArg (fun q => (⟨L12 ++ [(18, vb q), (19, vb q), (20, vb q)], [B2], H⟩ : St)) h9) ?_
 refine yr 11 ⟨L12 ++ [(18, vT)] ++ L18, [B2], H⟩ ?_
 cases hB16
 exact ye
 refine o_eq (congrArg (fun q => (⟨L12 ++ [(18, vb q), (19, vb q), (20, vb q)], [B2], H⟩ : St)) h9) ?_
 refine yr 2 ⟨L13, [B2], H⟩ ?_
 obtain ⟨r10, c11, hB16⟩ := bind1_inv hB16
 let L14 : List EN := L13 ++ [(23, vb r10)]
 let L16 : List EN := L14 ++ [(24, vF), (25, vF), (26, vF), (27, .agg (m0_instr_Instr p0)), (28, vi r1)]
 refine o_one ⟨L14, [B2], H⟩ (yc (some 23) true false (⟨L13, [B2], H⟩ : St) (ok_instr_reg H c11)) ?_
 refine yr 3 ⟨L14 ++ [(24, vb (!r10)), (25, vb (!r10)), (26, vb (!r10))], [B2], H⟩ ?_
 rcases if_inv hB16 with ⟨h12, hB16⟩ | ⟨h12, hB16⟩
 refine o_eq (congrArg (fun q => (⟨L14 ++ [(24, vb q), (25, vb q), (26, vb q)], [B2], H⟩ : St)) h12) ?_
 refine yr 5 ⟨L14 ++ [(24, vT)] ++ L17, [B2], H⟩ ?_
 cases hB16
 exact ye
 refine o_eq (congrArg (fun q => (⟨L14 ++ [(24, vb q), (25, vb q), (26, vb q)], [B2], H⟩ : St)) h12) ?_
 refine yr 2 ⟨L16, [B2], H⟩ ?_
 obtain ⟨r13, c14, hB16⟩ := bind1_inv hB16
 refine o_one ⟨L16 ++ [(29, vb r13)], [B2], H⟩ (yc (some 29) true false (⟨L16, [B2], H⟩ : St) (ok_instr_imm H c14)) ?_
 refine yr 2 ⟨L16 ++ [(29, vb r13), (30, vb (!r13)), (31, vb (!r13))], [B2], H⟩ ?_
 cases hB16
 exact ye
 rcases if_inv hF with ⟨h17, hF⟩ | ⟨h17, hF⟩
 refine yT h17 S21 ?_
 refine ysg ⟨[(2, vi 20)], [], H⟩ ?_
 refine w_ret ?_
 obtain e0 := some1_inv hF
 subst e0
 exact yp (vi 20)
 refine yF h17 ⟨L7, [B2], H⟩ ?_
 refine w_skip ?_
 refine ysg ⟨L7 ++ [E6], [B2], H⟩ ?_
 refine w_seq ?_
 refine ysg ⟨L10, [B2], H⟩ ?_
 refine w_block ?_
 refine w_seq ?_
 refine ysg ⟨L10 ++ [(36, vb (r1 == 0))], [B2], H⟩ ?_
 refine w_join (α := (Bool)) (fun x => (⟨L10 ++ [(36, vb x)], [B2], H⟩ : St)) (fun x => instr_Check_j1 p0 r1 x = some ra) ?_ ?_
 rintro j18 hF
 replace hF : instr_Check_j1 p0 r1 j18 = some ra := hF
 unfold instr_Check_j1 at hF
 refine w_join (α := (Bool)) (fun x => (⟨[(4, vb x)], [], H⟩ : St)) (fun x => instr_Check_j2 x = some ra) ?_ ?_
 rintro j19 hF
 replace hF : instr_Check_j2 j19 = some ra := hF
 unfold instr_Check_j2 at hF
 refine w_seq ?_
 refine ysg ⟨[(64, vb (!j19))], [], H⟩ ?_
 rcases if_inv hF with ⟨h20, hF⟩ | ⟨h20, hF⟩
 refine yT h20 S21 ?_
 refine ysg ⟨[(2, vi 20)], [], H⟩ ?_
 refine w_ret ?_
 obtain e0 := some1_inv hF
 subst e0
 exact yp (vi 20)
 refine yF h20 S21 ?_
 refine w_skip ?_
 refine ysg ⟨[(2, vi 0)], [], H⟩ ?_
 refine w_ret ?_
 obtain e0 := some1_inv hF
 subst e0
 exact yp (vi 0)
 rcases if_inv hF with ⟨h21, hF⟩ | ⟨h21, hF⟩
 refine yT h21 ⟨L8, [B2], H⟩ ?_
 refine w_regO ⟨[(4, vb ((p0.C_ == 0) && ((p0.A_ == 0) && (p0.B_ == 0))))], [], H⟩ ?_ ?_
 refine yr 2 ⟨L8 ++ [(40, vb (p0.C_ == 0)), (41, vb (p0.C_ == 0))], [B2], H⟩ ?_
 rcases bool_cases (p0.C_ == 0) with h22 | h22
 refine o_eq (congrArg (fun q => (⟨[E1, (4, vb q), (40, vb q), (41, vb q)], [B2], H⟩ : St)) h22) ?_
 refine yr 5 ⟨[E1, (4, vT)] ++ L15 ++ [(44, vb (p0.A_ == 0)), (45, vb (p0.A_ == 0)), (46, vb (p0.A_ == 0))], [B2], H⟩ ?_
 rcases bool_cases (p0.A_ == 0) with h23 | h23
 refine o_eq (congrArg (fun q => (⟨[E1, (4, vT)] ++ L15 ++ [(44, vb q), (45, vb q), (46, vb q)], [B2], H⟩ : St)) h23) ?_
 refine yr 5 ⟨[E1, (4, vb (p0.B_ == 0))] ++ L15 ++ [(44, vT), (45, vT), (46, vT), (47, vl 1 2), (48, vi p0.B_), (49, vb (p0.B_ == 0)), (50, vb (p0.B_ == 0))], [B2], H⟩ ?_
 refine o_eq2 (congrArg (fun q0 => (⟨[(4, vb q0)], [], H⟩ : St)) (show (p0.B_ == 0) = ((p0.C_ == 0) && ((p0.A_ == 0) && (p0.B_ == 0))) by simp [h22, h23])) ?_
 exact ye
 refine o_eq (congrArg (fun q => (⟨[E1, (4, vT)] ++ L15 ++ [(44, vb q), (45, vb q), (46, vb q)], [B2], H⟩ : St)) h23) ?_
 refine yr 5 ⟨[E1, (4, vF)] ++ L15 ++ [(44, vF)] ++ L19, [B2], H⟩ ?_
 refine o_eq2 (congrArg (fun q0 => (⟨[(4, vb q0)], [], H⟩ : St)) (show false = ((p0.C_ == 0) && ((p0.A_ == 0) && (p0.B_ == 0))) by simp [h22, h23])) ?_
 exact ye
 refine o_eq (congrArg (fun q => (⟨[E1, (4, vb q), (40, vb q), (41, vb q)], [B2], H⟩ : St)) h22) ?_
 refine yr 10 ⟨[E1, (4, vF), (40, vF), (41, vF), (42, vN), (43, vN), (44, vN)] ++ L19, [B2], H⟩ ?_
 refine o_eq2 (congrArg (fun q0 => (⟨[(4, vb q0)], [], H⟩ : St)) (show false = ((p0.C_ == 0) && ((p0.A_ == 0) && (p0.B_ == 0))) by simp [h22])) ?_
 exact ye
 exact ⟨((p0.C_ == 0) && ((p0.A_ == 0) && (p0.B_ == 0))), hF, (by kernel_rfl)⟩
 refine yF h21 ⟨L10, [B2], H⟩ ?_
 refine w_seq ?_
 refine ysg ⟨L10 ++ [(51, vb (r1 == 1))], [B2], H⟩ ?_
 refine w_join (α := (Bool)) (fun x => (⟨L10 ++ [(51, vb x)], [B2], H⟩ : St)) (fun x => instr_Check_j3 p0 r1 x = some ra) ?_ ?_
 rintro j24 hF
 replace hF : instr_Check_j3 p0 r1 j24 = some ra := hF
 unfold instr_Check_j3 at hF
 refine w_join (α := (Bool)) (fun x => (⟨[(4, vb x)], [], H⟩ : St)) (fun x => instr_Check_j4 x = some ra) ?_ ?_
 rintro j25 hF
 replace hF : instr_Check_j4 j25 = some ra := hF
 unfold instr_Check_j4 at hF
 exact ⟨j25, hF, (by kernel_rfl)⟩
 rcases if_inv hF with ⟨h26, hF⟩ | ⟨h26, hF⟩
 refine yT h26 ⟨L8, [B2], H⟩ ?_
 refine w_regO ⟨[(4, vb ((p0.C_ == 0) && (p0.B_ == 0)))], [], H⟩ ?_ ?_
 refine yr 2 ⟨L8 ++ [(55, vb (p0.C_ == 0)), (56, vb (p0.C_ == 0))], [B2], H⟩ ?_
 rcases bool_cases (p0.C_ == 0) with h27 | h27
 refine o_eq (congrArg (fun q => (⟨[E1, (4, vb q), (55, vb q), (56, vb q)], [B2], H⟩ : St)) h27) ?_
 refine yr 5 ⟨[E1, (4, vb (p0.B_ == 0)), (55, vT), (56, vT), (57, vl 1 2), (58, vi p0.B_), (59, vb (p0.B_ == 0)), (60, vb (p0.B_ == 0))], [B2], H⟩ ?_
 refine o_eq2 (congrArg (fun q0 => (⟨[(4, vb q0)], [], H⟩ : St)) (show (p0.B_ == 0) = ((p0.C_ == 0) && (p0.B_ == 0)) by simp [h27])) ?_
 exact ye
 refine o_eq (congrArg (fun q => (⟨[E1, (4, vb q), (55, vb q), (56, vb q)], [B2], H⟩ : St)) h27) ?_
 refine yr 5 ⟨[E1, (4, vF), (55, vF), (56, vF), (57, vN), (58, vN), (59, vN), (60, vF)], [B2], H⟩ ?_
 refine o_eq2 (congrArg (fun q0 => (⟨[(4, vb q0)], [], H⟩ : St)) (show false = ((p0.C_ == 0) && (p0.B_ == 0)) by simp [h27])) ?_
 exact ye
 exact ⟨((p0.C_ == 0) && (p0.B_ == 0)), hF, (by kernel_rfl)⟩
 refine yF h26 ⟨[E6, (35, vi r1)], [], H⟩ ?_
 refine ysg ⟨[E6, (61, vb (r1 == 5))], [], H⟩ ?_
 refine w_join (α := (Bool)) (fun x => (⟨[(4, vb x)], [], H⟩ : St)) (fun x => instr_Check_j5 x = some ra) ?_ ?_
 rintro j28 hF
 replace hF : instr_Check_j5 j28 = some ra := hF
 unfold instr_Check_j5 at hF
 exact ⟨j28, hF, (by kernel_rfl)⟩
 rcases if_inv hF with ⟨h29, hF⟩ | ⟨h29, hF⟩
 refine yT h29 S21 ?_
 refine yg ⟨[(4, vT)], [], H⟩ ?_
 exact ⟨true, hF, (by kernel_rfl)⟩
 refine yF h29 ⟨[E6], [], H⟩ ?_
 refine w_skip ?_
 exact ⟨(p0.C_ == 0), hF, (by kernel_rfl)⟩
 rcases if_inv hF with ⟨h30, hF⟩ | ⟨h30, hF⟩
 refine yT h30 ⟨L10 ++ [(51, vb (r1 == 1))], [B2], H⟩ ?_
 refine w_skip ?_
 exact ⟨(r1 == 1), hF, (by kernel_rfl)⟩
 refine yF h30 ⟨L10, [B2], H⟩ ?_
 refine ysg ⟨L10 ++ [(51, vb (r1 == 2))], [B2], H⟩ ?_
 refine w_join (α := (Bool)) (fun x => (⟨L10 ++ [(51, vb x)], [B2], H⟩ : St)) (fun x => instr_Check_j6 p0 r1 x = some ra) ?_ ?_
 rintro j31 hF
 replace hF : instr_Check_j6 p0 r1 j31 = some ra := hF
 unfold instr_Check_j6 at hF
 exact ⟨j31, hF, (by kernel_rfl)⟩
 rcases if_inv hF with ⟨h32, hF⟩ | ⟨h32, hF⟩
 refine yT h32 ⟨L10 ++ [(51, vb (r1 == 2))], [B2], H⟩ ?_
 refine w_skip ?_
 exact ⟨(r1 == 2), hF, (by kernel_rfl)⟩
 refine yF h32 ⟨L10, [B2], H⟩ ?_
 refine yg ⟨L10 ++ [(51, vb (r1 == 6))], [B2], H⟩ ?_
 exact ⟨(r1 == 6), hF, (by kernel_rfl)⟩
 rcases if_inv hF with ⟨h33, hF⟩ | ⟨h33, hF⟩
 refine yT h33 ⟨L10 ++ [(36, vb (r1 == 0))], [B2], H⟩ ?_
 refine w_skip ?_
 exact ⟨(r1 == 0), hF, (by kernel_rfl)⟩
 refine yF h33 ⟨L10, [B2], H⟩ ?_
 refine ysg ⟨L10 ++ [(36, vb (r1 == 7))], [B2], H⟩ ?_
 refine w_join (α := (Bool)) (fun x => (⟨L10 ++ [(36, vb x)], [B2], H⟩ : St)) (fun x => instr_Check_j7 p0 r1 x = some ra) ?_ ?_
 rintro j34 hF
 replace hF : instr_Check_j7 p0 r1 j34 = some ra := hF
 unfold instr_Check_j7 at hF
 exact ⟨j34, hF, (by kernel_rfl)⟩
 rcases if_inv hF with ⟨h35, hF⟩ | ⟨h35, hF⟩
 refine yT h35 ⟨L10 ++ [(36, vb (r1 == 7))], [B2], H⟩ ?_
 refine w_skip ?_
 exact ⟨(r1 == 7), hF, (by kernel_rfl)⟩
 refine yF h35 ⟨L10, [B2], H⟩ ?_
 refine yg ⟨L10 ++ [(36, vb (r1 == 8))], [B2], H⟩ ?_
 exact ⟨(r1 == 8), hF, (by kernel_rfl)⟩
noncomputable def instr_Encode  (p0 : T_instr_Instr) : Option (Int × Int) :=
  bind1 (instr_Check p0) fun r1 =>
  if (r1 != 0) = true then (some (0, r1))
  else (bind1 (instr_Shape p0.Op_) fun r4 =>
  if (r4 == 7) = true then (some ((bitsOf .or .u32 (IntKind.wrap .u32 ((IntKind.wrap .u32 p0.Op_) * 2 ^ 24)) (bitsOf .and .u32 (IntKind.wrap .u32 p0.Imm_) 16777215)), 0))
  else (some ((bitsOf .or .u32 (bitsOf .or .u32 (bitsOf .or .u32 (bitsOf .or .u32 (IntKind.wrap .u32 ((IntKind.wrap .u32 p0.Op_) * 2 ^ 24)) (IntKind.wrap .u32 ((IntKind.wrap .u32 p0.A_) * 2 ^ 20))) (IntKind.wrap .u32 ((IntKind.wrap .u32 p0.B_) * 2 ^ 16))) (bitsOf .and .u32 (IntKind.wrap .u32 p0.Imm_) 65535)) (IntKind.wrap .u32 p0.C_)), 0)))
theorem ok_instr_Encode (H : Heap) {p0 : T_instr_Instr} {ra : Int} {rb : Int} (hF : instr_Encode p0 = some (ra, rb)) : evS X 50 [.agg (m0_instr_Instr p0)] H = some (.tup [.one .top (.int .u32 ra), .one .top (.int .i64 rb)], H) := by
 let E1 : EN := (1, vl 1 0)
 let B2 : EB := (1, (m0_instr_Instr p0))
 let E3 : EN := (6, .agg (m0_instr_Instr p0))
 let L4 : List EN := [E1, (5, vu (IntKind.wrap .u32 ((IntKind.wrap .u32 p0.Op_) * 2 ^ 24)))]
 let L5 : List EN := L4 ++ [(15, vl 1 0), (16, vi p0.Op_)]
 refine yf Try.func50 true ⟨[(0, .agg (m0_instr_Instr p0))], [], H⟩ ?_
 unfold instr_Encode at hF
 refine ysg ⟨[E1], [B2], H⟩ ?_
 refine w_seq ?_
 refine w_seq ?_
 obtain ⟨r1, c2, hF⟩ := bind1_inv hF
 refine w_regO ⟨[E1, (4, vi r1)], [B2], H⟩ ?_ ?_
 refine yr 1 ⟨[E1, E3], [B2], H⟩ ?_
 refine o_one ⟨[E1, E3, (7, vi r1)], [B2], H⟩ (yc (some 7) true false (⟨[E1, E3], [B2], H⟩ : St) (ok_instr_Check H c2)) ?_
 refine yr 1 ⟨[E1, (4, vi r1), E3, (7, vi r1)], [B2], H⟩ ?_
 exact ye
 refine ysg ⟨[E1, (4, vi r1), (9, vb (r1 != 0))], [B2], H⟩ ?_
 rcases if_inv hF with ⟨h3, hF⟩ | ⟨h3, hF⟩
 refine yT h3 ⟨[(4, vi r1)], [], H⟩ ?_
 refine ysg ⟨[(2, vu 0), (3, vi r1)], [], H⟩ ?_
 refine w_ret ?_
 obtain ⟨e0, e1⟩ := some2_inv hF
 subst e0
 subst e1
 exact yp (.tup [vu 0, vi r1])
 refine yF h3 ⟨[E1], [B2], H⟩ ?_
 refine w_skip ?_
 refine ysg ⟨L4, [B2], H⟩ ?_
 refine w_seq ?_
 refine w_seq ?_
 obtain ⟨r4, c5, hF⟩ := bind1_inv hF
 refine w_regO ⟨L4 ++ [(18, vb (r4 == 7))], [B2], H⟩ ?_ ?_
 refine yr 2 ⟨L5, [B2], H⟩ ?_
 refine o_one ⟨L5 ++ [(17, vi r4)], [B2], H⟩ (yc (some 17) true false (⟨L5, [B2], H⟩ : St) (ok_instr_Shape H c5)) ?_
 refine yr 1 ⟨L5 ++ [(17, vi r4), (18, vb (r4 == 7))], [B2], H⟩ ?_
 exact ye
 rcases if_inv hF with ⟨h6, hF⟩ | ⟨h6, hF⟩
 refine yT h6 ⟨L4, [B2], H⟩ ?_
 refine ysg ⟨[(2, vu (bitsOf .or .u32 (IntKind.wrap .u32 ((IntKind.wrap .u32 p0.Op_) * 2 ^ 24)) (bitsOf .and .u32 (IntKind.wrap .u32 p0.Imm_) 16777215))), (3, vi 0)], [], H⟩ ?_
 refine w_ret ?_
 obtain ⟨e0, e1⟩ := some2_inv hF
 subst e0
 subst e1
 exact yp (.tup [vu (bitsOf .or .u32 (IntKind.wrap .u32 ((IntKind.wrap .u32 p0.Op_) * 2 ^ 24)) (bitsOf .and .u32 (IntKind.wrap .u32 p0.Imm_) 16777215)), vi 0])
 refine yF h6 ⟨L4, [B2], H⟩ ?_
 refine w_skip ?_
 refine ysg ⟨[(2, vu (bitsOf .or .u32 (bitsOf .or .u32 (bitsOf .or .u32 (bitsOf .or .u32 (IntKind.wrap .u32 ((IntKind.wrap .u32 p0.Op_) * 2 ^ 24)) (IntKind.wrap .u32 ((IntKind.wrap .u32 p0.A_) * 2 ^ 20))) (IntKind.wrap .u32 ((IntKind.wrap .u32 p0.B_) * 2 ^ 16))) (bitsOf .and .u32 (IntKind.wrap .u32 p0.Imm_) 65535)) (IntKind.wrap .u32 p0.C_))), (3, vi 0)], [], H⟩ ?_
 refine w_ret ?_
 obtain ⟨e0, e1⟩ := some2_inv hF
 subst e0
 subst e1
 exact yp (.tup [vu (bitsOf .or .u32 (bitsOf .or .u32 (bitsOf .or .u32 (bitsOf .or .u32 (IntKind.wrap .u32 ((IntKind.wrap .u32 p0.Op_) * 2 ^ 24)) (IntKind.wrap .u32 ((IntKind.wrap .u32 p0.A_) * 2 ^ 20))) (IntKind.wrap .u32 ((IntKind.wrap .u32 p0.B_) * 2 ^ 16))) (bitsOf .and .u32 (IntKind.wrap .u32 p0.Imm_) 65535)) (IntKind.wrap .u32 p0.C_)), vi 0])
noncomputable def emit_Code_Fail (H : Heap) (p0 : Ptr) (p1 : Int) : Option (Heap) :=
  (p0).bnd fun i1 o2 =>
  bind1 (get_emit_Code H i1 o2) fun x4 =>
  if (x4.err_ == 0) = true then (bnd (set_emit_Code H i1 o2 (T_emit_Code.mk x4.words_ x4.fixups_ x4.marks_ x4.pads_ x4.active_ x4.depth_ x4.most_ p1)) fun H7 =>
  some H7)
  else (some H)
theorem ok_emit_Code_Fail (H : Heap) {p0 : Ptr} {p1 : Int} {Hr : Heap} (hF : emit_Code_Fail H p0 p1 = some Hr) : evS X 34 [.one .top (Ptr.av p0), .one .top (.int .i64 p1)] H = some (.tup [], Hr) := by
 refine yf Try.func34 false ⟨[(0, vp p0), (1, vi p1)], [], H⟩ ?_
 unfold emit_Code_Fail at hF
 refine w_seq ?_
 obtain ⟨i1, o2, h3, hF⟩ := pbnd_inv hF
 let L2 : List EN := [(0, vo i1 o2), (1, vi p1)]
 let L3 : List EN := L2 ++ [(4, vo i1 o2), (5, vo i1 o2), (6, vo i1 (o2 + 7))]
 let L4 : List EN := L2 ++ [(9, vo i1 o2), (10, vi p1), (11, vo i1 o2), (12, vo i1 (o2 + 7))]
 obtain ⟨x4, V5, hF⟩ := bind1_inv hF
 replace V5 := hgetT_inv V5
 let W1 : Heap := hset H i1 o2 [((.own 1), .sl 1 (List.map (eI .u32) x4.words_)), ((.own 1), .sl 4 (List.map e_api_Fixup x4.fixups_)), ((.own 1), .sl 2 (List.map e_api_Segment x4.marks_.list_)), ((.own 1), .sl 1 (List.map (eI .i64) x4.pads_)), ((.own 1), .sl 1 (List.map (eI .i64) x4.active_)), (.top, .int .i64 x4.depth_), (.top, .int .i64 x4.most_), (.top, .int .i64 p1)]
 refine w_regO ⟨L2 ++ [(8, vb (x4.err_ == 0))], [], H⟩ ?_ ?_
 refine yr 1 ⟨[(0, vp p0), (1, vi p1), (4, vp p0)], [], H⟩ ?_ (h := (by generalize p0 = qp0; cases qp0 <;> kernel_rfl))
 refine o_eq (congrArg (fun q => (⟨[(0, vp q), (1, vi p1), (4, vp q)], [], H⟩ : St)) h3) ?_
 refine yr 1 ⟨L2 ++ [(4, vo i1 o2), (5, vo i1 o2)], [], H⟩ ?_
 refine yr 1 ⟨L3, [], H⟩ ?_
 refine o_one ⟨L3 ++ [(7, vi x4.err_)], [], H⟩ (yd (X := X) (⟨L3, [], H⟩ : St) 37 V5 7 1 false (vi x4.err_) (some 7)) ?_
 refine yr 1 ⟨L3 ++ [(7, vi x4.err_), (8, vb (x4.err_ == 0))], [], H⟩ ?_
 exact ye
 rcases if_inv hF with ⟨h6, hF⟩ | ⟨h6, hF⟩
 refine yT h6 ⟨L2, [], H⟩ ?_
 obtain ⟨H7, h8, hF⟩ := bnd_inv hF
 have V9 : hget H7 i1 o2 8 = some (o_emit_Code (T_emit_Code.mk x4.words_ x4.fixups_ x4.marks_ x4.pads_ x4.active_ x4.depth_ x4.most_ p1)) := by rw [← h8]; exact hset_get V5 rfl
 refine w_regO ⟨[], [], H7⟩ ?_ ?_
 refine yr 4 ⟨L4, [], H⟩ ?_
 refine o_one ⟨L4, [], W1⟩ (st_st (X := X) (lc := []) (h2 := W1) (⟨L4, [], H⟩ : St) 37 V5 7 1 (vi p1) (by kernel_rfl) (by kernel_rfl) (by kernel_rfl) (by kernel_rfl) (by kernel_rfl) (by kernel_rfl) (hset_sub0 V5 (Nat.le_of_ble_eq_true rfl)) (by kernel_rfl)) ?_
 refine o_eq (congrArg (fun q => (⟨L4, [], q⟩ : St)) h8) ?_
 exact ye
 obtain e0 := some1_inv hF
 subst e0
 exact yi (vN)
 refine yF h6 ⟨[], [], H⟩ ?_
 refine w_skip ?_
 obtain e0 := some1_inv hF
 subst e0
 exact yi (vN)
noncomputable def emit_Code_Put_j1 (p0 : Ptr) (j4 : Int) (H5 : Heap) : Option (Heap × Int) :=
  (p0).bnd fun i6 o7 =>
  bind1 (get_emit_Code H5 i6 o7) fun x9 =>
  if (decide ((x9.words_.length : Int) ≥ 16384)) = true then (bind1 (emit_Code_Fail H5 (Ptr.at i6 o7) 242) fun H13 =>
  bind1 (get_emit_Code H13 i6 o7) fun x14 =>
  some (H13, (IntKind.wrap .i64 ((x14.words_.length : Int) - 1))))
  else (bind1 (app 4 x9.words_ ([j4] : List Int)) fun v16 =>
  bnd (set_emit_Code H5 i6 o7 (T_emit_Code.mk v16 x9.fixups_ x9.marks_ x9.pads_ x9.active_ x9.depth_ x9.most_ x9.err_)) fun H18 =>
  some (H18, (IntKind.wrap .i64 ((v16.length : Int) - 1))))
noncomputable def emit_Code_Put (H : Heap) (p0 : Ptr) (p1 : T_instr_Instr) : Option (Heap × Int) :=
  bind2 (instr_Encode p1) fun r1 r2 =>
  if (r2 != 0) = true then (bind1 (emit_Code_Fail H p0 r2) fun H23 =>
  bind2 (instr_Encode (T_instr_Instr.mk 1 0 0 0 0)) fun r24 r25 =>
  emit_Code_Put_j1 p0 r24 H23)
  else (emit_Code_Put_j1 p0 r1 H)
theorem ok_emit_Code_Put (H : Heap) {p0 : Ptr} {p1 : T_instr_Instr} {ra : Int} {Hr : Heap} (hF : emit_Code_Put H p0 p1 = some (Hr, ra)) : evS X 25 [.one .top (Ptr.av p0), .agg (m0_instr_Instr p1)] H = some (.one .top (.int .i64 ra), Hr) := by
 let E3 : Ptr → EN := fun z0 => (0, vp z0)
 let E4 : EN := (3, vl 3 0)
 let B5 : EB := (3, (m0_instr_Instr p1))
 let E7 : EN := (8, .agg (m0_instr_Instr p1))
 let E23 : EN := (18, .agg ([(.top, .int .i64 1)] ++ List.replicate 4 (.top, .int .i64 0)))
 let S33 : Ptr → St := fun z0 => ⟨[(E3 z0), E4, E7], [B5], H⟩
 refine yf Try.func25 false ⟨[(E3 p0), (1, .agg (m0_instr_Instr p1))], [], H⟩ ?_
 unfold emit_Code_Put at hF
 refine ysg ⟨[(E3 p0), E4], [B5], H⟩ ?_ (h := (by generalize p0 = qp0; cases qp0 <;> kernel_rfl))
 refine w_seq ?_
 obtain ⟨r1, r2, c3, hF⟩ := bind2_inv hF
 let E6 : EN := (6, vi r2)
 let L32 : Ptr → List EN := fun z0 => [(E3 z0), E6, (14, vp z0), (15, vi r2)]
 refine w_regO ⟨[(E3 p0), (5, vu r1), E6], [], H⟩ ?_ ?_
 refine yr 1 (S33 p0) ?_ (h := (by generalize p0 = qp0; cases qp0 <;> kernel_rfl))
 refine o_one ⟨[(E3 p0), E4, E7, (9, .tup [vu r1, vi r2])], [B5], H⟩ (yc (some 9) true false (S33 p0) (ok_instr_Encode H c3) (hr := (by generalize p0 = qp0; cases qp0 <;> kernel_rfl)) (hs := (by generalize p0 = qp0; cases qp0 <;> kernel_rfl))) ?_
 refine yr 5 ⟨[(E3 p0), E4, (5, vu r1), E6, (7, .tup [vu r1, vi r2]), E7, (9, .tup [vu r1, vi r2]), (10, vu r1), (11, vi r2)], [B5], H⟩ ?_ (h := (by generalize p0 = qp0; cases qp0 <;> kernel_rfl))
 exact ye
 refine w_seq ?_
 refine ysg ⟨[(E3 p0), (5, vu r1), E6, (13, vb (r2 != 0))], [], H⟩ ?_ (h := (by generalize p0 = qp0; cases qp0 <;> kernel_rfl))
 refine w_join (α := (Int × Heap)) (fun x => (⟨[(E3 p0), (5, vu x.1)], [], x.2⟩ : St)) (fun x => emit_Code_Put_j1 p0 x.1 x.2 = some (Hr, ra)) ?_ ?_
 rintro ⟨j4, H5⟩ hF
 replace hF : emit_Code_Put_j1 p0 j4 H5 = some (Hr, ra) := hF
 unfold emit_Code_Put_j1 at hF
 refine w_seq ?_
 refine w_seq ?_
 obtain ⟨i6, o7, h8, hF⟩ := pbnd_inv hF
 let E11 : EN := (0, vo i6 o7)
 let E12 : EN := (28, vo i6 o7)
 let E14 : EN := (30, vo i6 o7)
 let E15 : EN := (31, vo i6 o7)
 let L25 : List EN := [E11, (5, vu j4)]
 let L26 : List EN := L25 ++ [(36, vo i6 o7), (37, vo i6 o7), (38, vo i6 o7), (39, vo i6 o7)]
 let L27 : List EN := L26 ++ [(40, .one .top .junk), (41, vu j4), (42, .one .top .junk)]
 let L28 : List EN := L25 ++ [(22, vo i6 o7), (23, vo i6 o7), (24, vo i6 o7)]
 let L29 : List EN := [E11, (46, vo i6 o7), (47, vo i6 o7), (48, vo i6 o7)]
 let L30 : List EN := [E11, E14, E15, (32, vo i6 o7)]
 let L31 : List EN := L27 ++ [(43, .one .top .junk), (44, vo i6 o7), (45, vo i6 o7)]
 obtain ⟨x9, V10, hF⟩ := bind1_inv hF
 replace V10 := hgetT_inv V10
 let W1 : Heap := hset H5 i6 o7 [(.top, .junk), ((.own 1), .sl 4 (List.map e_api_Fixup x9.fixups_)), ((.own 1), .sl 2 (List.map e_api_Segment x9.marks_.list_)), ((.own 1), .sl 1 (List.map (eI .i64) x9.pads_)), ((.own 1), .sl 1 (List.map (eI .i64) x9.active_)), (.top, .int .i64 x9.depth_), (.top, .int .i64 x9.most_), (.top, .int .i64 x9.err_)]
 let E8 : EN := (27, vb (decide ((x9.words_.length : Int) ≥ 16384)))
 let E9 : EN := (25, .one .bh (.sl 1 (List.map (eI .u32) x9.words_)))
 let E10 : EN := (26, vi (x9.words_.length : Int))
 let E18 : EN := (40, .one (.own 1) (.sl 1 (List.map (eI .u32) x9.words_)))
 refine w_regO ⟨L25 ++ [E8], [], H5⟩ ?_ ?_
 refine yr 1 ⟨[(E3 p0), (5, vu j4), (22, vp p0)], [], H5⟩ ?_ (h := (by generalize p0 = qp0; cases qp0 <;> kernel_rfl))
 refine o_eq (congrArg (fun q => (⟨[(0, vp q), (5, vu j4), (22, vp q)], [], H5⟩ : St)) h8) ?_
 refine yr 1 ⟨L25 ++ [(22, vo i6 o7), (23, vo i6 o7)], [], H5⟩ ?_
 refine yr 1 ⟨L28, [], H5⟩ ?_
 refine o_one ⟨L28 ++ [E9], [], H5⟩ (yd (X := X) (⟨L28, [], H5⟩ : St) 33 V10 0 1 false (.one .bh (.sl 1 (List.map (eI .u32) x9.words_))) (some 25)) ?_
 refine o_one ⟨L28 ++ [E9, E10], [], H5⟩ (yl (⟨L28 ++ [E9], [], H5⟩ : St) x9.words_ (eI .u32) (some 26)) ?_
 refine yr 1 ⟨L28 ++ [E9, E10, E8], [], H5⟩ ?_
 exact ye
 rcases if_inv hF with ⟨h11, hF⟩ | ⟨h11, hF⟩
 refine yT h11 ⟨[E11], [], H5⟩ ?_
 refine w_seq ?_
 obtain ⟨H13, c12, hF⟩ := bind1_inv hF
 refine w_regO ⟨[E11], [], H13⟩ ?_ ?_
 refine yr 1 ⟨[E11, E12], [], H5⟩ ?_
 refine o_one ⟨[E11, E12, (29, vN)], [], H13⟩ (yc (some 29) false false (⟨[E11, E12], [], H5⟩ : St) (ok_emit_Code_Fail H5 c12)) ?_
 exact ye
 refine w_seq ?_
 obtain ⟨x14, V15, hF⟩ := bind1_inv hF
 replace V15 := hgetT_inv V15
 let E13 : EN := (4, vi (IntKind.wrap .i64 ((x14.words_.length : Int) - 1)))
 let E16 : EN := (33, .one .bh (.sl 1 (List.map (eI .u32) x14.words_)))
 let E17 : EN := (34, vi (x14.words_.length : Int))
 refine w_regO ⟨[E13], [], H13⟩ ?_ ?_
 refine yr 2 ⟨[E11, E14, E15], [], H13⟩ ?_
 refine yr 1 ⟨L30, [], H13⟩ ?_
 refine o_one ⟨L30 ++ [E16], [], H13⟩ (yd (X := X) (⟨L30, [], H13⟩ : St) 33 V15 0 1 false (.one .bh (.sl 1 (List.map (eI .u32) x14.words_))) (some 33)) ?_
 refine o_one ⟨L30 ++ [E16, E17], [], H13⟩ (yl (⟨L30 ++ [E16], [], H13⟩ : St) x14.words_ (eI .u32) (some 34)) ?_
 refine yr 2 ⟨[E11, E13, E14, E15, (32, vo i6 o7), E16, E17, (35, vi (IntKind.wrap .i64 ((x14.words_.length : Int) - 1)))], [], H13⟩ ?_
 exact ye
 refine w_ret ?_
 obtain ⟨e0, e1⟩ := some2_inv hF
 subst e0
 subst e1
 exact yi (vi (IntKind.wrap .i64 ((x14.words_.length : Int) - 1)))
 refine yF h11 ⟨L25, [], H5⟩ ?_
 refine w_skip ?_
 refine w_seq ?_
 obtain ⟨v16, h17, hF⟩ := bind1_inv hF
 let W2 : Heap := hset H5 i6 o7 [((.own 1), .sl 1 (List.map (eI .u32) v16)), ((.own 1), .sl 4 (List.map e_api_Fixup x9.fixups_)), ((.own 1), .sl 2 (List.map e_api_Segment x9.marks_.list_)), ((.own 1), .sl 1 (List.map (eI .i64) x9.pads_)), ((.own 1), .sl 1 (List.map (eI .i64) x9.active_)), (.top, .int .i64 x9.depth_), (.top, .int .i64 x9.most_), (.top, .int .i64 x9.err_)]
 let E19 : EN := (43, .one (.own 1) (.sl 1 (List.map (eI .u32) v16)))
 let E20 : EN := (4, vi (IntKind.wrap .i64 ((v16.length : Int) - 1)))
 let E21 : EN := (49, .one .bh (.sl 1 (List.map (eI .u32) v16)))
 let E22 : EN := (50, vi (v16.length : Int))
 obtain ⟨H18, h19, hF⟩ := bnd_inv hF
 have V20 : hget H18 i6 o7 8 = some (o_emit_Code (T_emit_Code.mk v16 x9.fixups_ x9.marks_ x9.pads_ x9.active_ x9.depth_ x9.most_ x9.err_)) := by rw [← h19]; exact hset_get V10 rfl
 refine w_regO ⟨[E11], [], H18⟩ ?_ ?_
 refine yr 4 ⟨L26, [], H5⟩ ?_
 refine o_one ⟨L26 ++ [E18], [], W1⟩ (st_ldT (X := X) (h2 := W1) (⟨L26, [], H5⟩ : St) 33 V10 0 1 false (.one (.own 1) (.sl 1 (List.map (eI .u32) x9.words_))) (some 40) (by kernel_rfl) (by kernel_rfl) (by kernel_rfl) (by kernel_rfl) (by kernel_rfl) (hset_sub0 (k := 0) V10 (Nat.le_of_ble_eq_true rfl)) (by kernel_rfl)) ?_
 refine yr 2 ⟨L26 ++ [E18, (41, vu j4), (42, .one (.own 1) (.sl 1 (List.map (eI .u32) ([j4] : List Int))))], [], W1⟩ ?_
 refine o_one ⟨L27 ++ [E19], [], W1⟩ (st_app (X := X) (⟨L27, [], W1⟩ : St) 4 h17 33 33 48 1 0 [(.top, .int .u32 0)] (.own 1) (eI .u32) 0 (some 43) (by kernel_rfl) (by kernel_rfl) (by kernel_rfl) (by kernel_rfl) (by kernel_rfl) (by kernel_rfl) (by kernel_rfl) (by kernel_rfl) (by kernel_rfl) (fun _ => rfl) (by kernel_rfl)) ?_
 refine yr 2 ⟨L27 ++ [E19, (44, vo i6 o7), (45, vo i6 o7)], [], W1⟩ ?_
 refine o_one ⟨L31, [], W2⟩ (st_st (X := X) (lc := []) (h2 := W2) (⟨L31, [], W1⟩ : St) 33 (hset_get V10 rfl) 0 1 (.one (.own 1) (.sl 1 (List.map (eI .u32) v16))) (by kernel_rfl) (by kernel_rfl) (by kernel_rfl) (by kernel_rfl) (by kernel_rfl) (by kernel_rfl) (hset_sub V10 rfl (Nat.le_of_ble_eq_true rfl)) (by kernel_rfl)) ?_
 refine o_eq (congrArg (fun q => (⟨L31, [], q⟩ : St)) h19) ?_
 exact ye
 refine yso ⟨[E20], [], H18⟩ ?_ ?_
 refine yr 3 ⟨L29, [], H18⟩ ?_
 refine o_one ⟨L29 ++ [E21], [], H18⟩ (yd (X := X) (⟨L29, [], H18⟩ : St) 33 V20 0 1 false (.one .bh (.sl 1 (List.map (eI .u32) v16))) (some 49)) ?_
 refine o_one ⟨L29 ++ [E21, E22], [], H18⟩ (yl (⟨L29 ++ [E21], [], H18⟩ : St) v16 (eI .u32) (some 50)) ?_
 refine yr 2 ⟨[E11, E20, (46, vo i6 o7), (47, vo i6 o7), (48, vo i6 o7), E21, E22, (51, vi (IntKind.wrap .i64 ((v16.length : Int) - 1)))], [], H18⟩ ?_
 exact ye
 refine w_ret ?_
 obtain ⟨e0, e1⟩ := some2_inv hF
 subst e0
 subst e1
 exact yi (vi (IntKind.wrap .i64 ((v16.length : Int) - 1)))
 rcases if_inv hF with ⟨h21, hF⟩ | ⟨h21, hF⟩
 refine yT h21 ⟨[(E3 p0), E6], [], H⟩ ?_
 refine w_seq ?_
 obtain ⟨H23, c22, hF⟩ := bind1_inv hF
 let S34 : Ptr → St := fun z0 => ⟨[(E3 z0), E23], [], H23⟩
 refine w_regO ⟨[(E3 p0)], [], H23⟩ ?_ ?_
 refine yr 2 ⟨(L32 p0), [], H⟩ ?_ (h := (by generalize p0 = qp0; cases qp0 <;> kernel_rfl))
 refine o_one ⟨(L32 p0) ++ [(16, vN)], [], H23⟩ (yc (some 16) false false (⟨(L32 p0), [], H⟩ : St) (ok_emit_Code_Fail H c22) (hr := (by generalize p0 = qp0; cases qp0 <;> kernel_rfl)) (hs := (by generalize p0 = qp0; cases qp0 <;> kernel_rfl))) ?_
 exact ye
 obtain ⟨r24, r25, c26, hF⟩ := bind2_inv hF
 let E24 : EN := (19, .tup [vu r24, vi r25])
 refine w_regO ⟨[(E3 p0), (5, vu r24)], [], H23⟩ ?_ ?_
 refine yr 1 (S34 p0) ?_ (h := (by generalize p0 = qp0; cases qp0 <;> kernel_rfl))
 refine o_one ⟨[(E3 p0), E23, E24], [], H23⟩ (yc (some 19) true false (S34 p0) (ok_instr_Encode H23 c26) (hr := (by generalize p0 = qp0; cases qp0 <;> kernel_rfl)) (hs := (by generalize p0 = qp0; cases qp0 <;> kernel_rfl))) ?_
 refine yr 4 ⟨[(E3 p0), (5, vu r24), (17, .tup [vu r24, vi r25]), E23, E24, (20, vu r24), (21, vi r25)], [], H23⟩ ?_ (h := (by generalize p0 = qp0; cases qp0 <;> kernel_rfl))
 exact ye
 exact ⟨(r24, H23), hF, (by kernel_rfl)⟩
 refine yF h21 ⟨[(E3 p0), (5, vu r1)], [], H⟩ ?_
 refine w_skip ?_
 exact ⟨(r1, H), hF, (by kernel_rfl)⟩
noncomputable def emit_Code_Jump (H : Heap) (p0 : Ptr) (p1 : Int) (p2 : Int) : Option (Heap × Int) :=
  bind2 (emit_Code_Put H p0 (T_instr_Instr.mk p1 p2 0 0 0)) fun H3 r1 =>
  some (H3, r1)
theorem ok_emit_Code_Jump (H : Heap) {p0 : Ptr} {p1 : Int} {p2 : Int} {ra : Int} {Hr : Heap} (hF : emit_Code_Jump H p0 p1 p2 = some (Hr, ra)) : evS X 11 [.one .top (Ptr.av p0), .one .top (.int .i64 p1), .one .top (.int .i64 p2)] H = some (.one .top (.int .i64 ra), Hr) := by
 let L1 : Ptr → List EN := fun z0 => [(0, vp z0), (1, vi p1), (2, vi p2)]
 let L2 : Ptr → List EN := fun z0 => [(7, vp z0), (8, vi p1), (9, vi p2), (10, .agg [(.top, .int .i64 p1), (.top, .int .i64 p2), (.top, .int .i64 0), (.top, .int .i64 0), (.top, .int .i64 0)])]
 refine yf Try.func11 false ⟨(L1 p0), [], H⟩ ?_
 unfold emit_Code_Jump at hF
 refine ysg ⟨(L1 p0), [], H⟩ ?_ (h := (by generalize p0 = qp0; cases qp0 <;> kernel_rfl))
 refine w_seq ?_
 obtain ⟨H3, r1, c2, hF⟩ := bind2_inv hF
 refine w_regO ⟨[(6, vi r1)], [], H3⟩ ?_ ?_
 refine yr 4 ⟨(L1 p0) ++ (L2 p0), [], H⟩ ?_ (h := (by generalize p0 = qp0; cases qp0 <;> kernel_rfl))
 refine o_one ⟨(L1 p0) ++ (L2 p0) ++ [(11, vi r1)], [], H3⟩ (yc (some 11) false false (⟨(L1 p0) ++ (L2 p0), [], H⟩ : St) (ok_emit_Code_Put H c2) (hr := (by generalize p0 = qp0; cases qp0 <;> kernel_rfl)) (hs := (by generalize p0 = qp0; cases qp0 <;> kernel_rfl))) ?_
 refine yr 1 ⟨(L1 p0) ++ [(6, vi r1)] ++ (L2 p0) ++ [(11, vi r1)], [], H3⟩ ?_ (h := (by generalize p0 = qp0; cases qp0 <;> kernel_rfl))
 exact ye
 refine w_ret ?_
 obtain ⟨e0, e1⟩ := some2_inv hF
 subst e0
 subst e1
 exact yi (vi r1)
noncomputable def emit_Code_Reg (H : Heap) (p0 : Ptr) (p1 : Int) (p2 : Int) : Option (Heap × Int) :=
  bind2 (emit_Code_Put H p0 (T_instr_Instr.mk p1 p2 0 0 0)) fun H3 r1 =>
  some (H3, r1)
theorem ok_emit_Code_Reg (H : Heap) {p0 : Ptr} {p1 : Int} {p2 : Int} {ra : Int} {Hr : Heap} (hF : emit_Code_Reg H p0 p1 p2 = some (Hr, ra)) : evS X 12 [.one .top (Ptr.av p0), .one .top (.int .i64 p1), .one .top (.int .i64 p2)] H = some (.one .top (.int .i64 ra), Hr) := by
 let L1 : Ptr → List EN := fun z0 => [(0, vp z0), (1, vi p1), (2, vi p2)]
 let L2 : Ptr → List EN := fun z0 => [(7, vp z0), (8, vi p1), (9, vi p2), (10, .agg [(.top, .int .i64 p1), (.top, .int .i64 p2), (.top, .int .i64 0), (.top, .int .i64 0), (.top, .int .i64 0)])]
 refine yf Try.func12 false ⟨(L1 p0), [], H⟩ ?_
 unfold emit_Code_Reg at hF
 refine ysg ⟨(L1 p0), [], H⟩ ?_ (h := (by generalize p0 = qp0; cases qp0 <;> kernel_rfl))
 refine w_seq ?_
 obtain ⟨H3, r1, c2, hF⟩ := bind2_inv hF
 refine w_regO ⟨[(6, vi r1)], [], H3⟩ ?_ ?_
 refine yr 4 ⟨(L1 p0) ++ (L2 p0), [], H⟩ ?_ (h := (by generalize p0 = qp0; cases qp0 <;> kernel_rfl))
 refine o_one ⟨(L1 p0) ++ (L2 p0) ++ [(11, vi r1)], [], H3⟩ (yc (some 11) false false (⟨(L1 p0) ++ (L2 p0), [], H⟩ : St) (ok_emit_Code_Put H c2) (hr := (by generalize p0 = qp0; cases qp0 <;> kernel_rfl)) (hs := (by generalize p0 = qp0; cases qp0 <;> kernel_rfl))) ?_
 refine yr 1 ⟨(L1 p0) ++ [(6, vi r1)] ++ (L2 p0) ++ [(11, vi r1)], [], H3⟩ ?_ (h := (by generalize p0 = qp0; cases qp0 <;> kernel_rfl))
 exact ye
 refine w_ret ?_
 obtain ⟨e0, e1⟩ := some2_inv hF
 subst e0
 subst e1
 exact yi (vi r1)
noncomputable def emit_Code_Here (H : Heap) (p0 : Ptr) : Option (Int) :=
  (p0).bnd fun i1 o2 =>
  bind1 (get_emit_Code H i1 o2) fun x4 =>
  some (x4.words_.length : Int)
theorem ok_emit_Code_Here (H : Heap) {p0 : Ptr} {ra : Int} (hF : emit_Code_Here H p0 = some ra) : evS X 19 [.one .top (Ptr.av p0)] H = some (.one .top (.int .i64 ra), H) := by
 refine yf Try.func19 true ⟨[(0, vp p0)], [], H⟩ ?_
 unfold emit_Code_Here at hF
 refine ysg ⟨[(0, vp p0)], [], H⟩ ?_ (h := (by generalize p0 = qp0; cases qp0 <;> kernel_rfl))
 refine w_seq ?_
 obtain ⟨i1, o2, h3, hF⟩ := pbnd_inv hF
 let L4 : List EN := [(0, vo i1 o2), (3, vo i1 o2), (4, vo i1 o2), (5, vo i1 o2)]
 obtain ⟨x4, V5, hF⟩ := bind1_inv hF
 replace V5 := hgetT_inv V5
 let E1 : EN := (2, vi (x4.words_.length : Int))
 let E2 : EN := (6, .one .bh (.sl 1 (List.map (eI .u32) x4.words_)))
 let E3 : EN := (7, vi (x4.words_.length : Int))
 refine w_regO ⟨[E1], [], H⟩ ?_ ?_
 refine yr 1 ⟨[(0, vp p0), (3, vp p0)], [], H⟩ ?_ (h := (by generalize p0 = qp0; cases qp0 <;> kernel_rfl))
 refine o_eq (congrArg (fun q => (⟨[(0, vp q), (3, vp q)], [], H⟩ : St)) h3) ?_
 refine yr 1 ⟨[(0, vo i1 o2), (3, vo i1 o2), (4, vo i1 o2)], [], H⟩ ?_
 refine yr 1 ⟨L4, [], H⟩ ?_
 refine o_one ⟨L4 ++ [E2], [], H⟩ (yd (X := X) (⟨L4, [], H⟩ : St) 33 V5 0 1 false (.one .bh (.sl 1 (List.map (eI .u32) x4.words_))) (some 6)) ?_
 refine o_one ⟨L4 ++ [E2, E3], [], H⟩ (yl (⟨L4 ++ [E2], [], H⟩ : St) x4.words_ (eI .u32) (some 7)) ?_
 refine yr 1 ⟨[(0, vo i1 o2), E1, (3, vo i1 o2), (4, vo i1 o2), (5, vo i1 o2), E2, E3], [], H⟩ ?_
 exact ye
 refine w_ret ?_
 obtain e0 := some1_inv hF
 subst e0
 exact yp (vi (x4.words_.length : Int))
theorem len_emit_Code_Here {H : Heap} {i o : Nat} {l : List Int} {cs : List MC} (V : hget H i o 8 = some ((.own 1, .sl 1 (List.map (eI .u32) l)) :: cs)) : evS X 19 [.one .top (.obj i o)] H = some (.one .top (.int .i64 (l.length : Int)), H) := by
 refine yf Try.func19 true ⟨[(0, vo i o)], [], H⟩ ?_
 refine ysg ⟨[(0, vo i o)], [], H⟩ ?_
 refine yso ⟨[(2, vi (l.length : Int))], [], H⟩ ?_ ?_
 refine yr 3 ⟨[(0, vo i o), (3, vo i o), (4, vo i o), (5, vo i o)], [], H⟩ ?_
 refine o_one ⟨[(0, vo i o), (3, vo i o), (4, vo i o), (5, vo i o), (6, .one .bh (.sl 1 (List.map (eI .u32) l)))], [], H⟩ (yd (X := X) ⟨[(0, vo i o), (3, vo i o), (4, vo i o), (5, vo i o)], [], H⟩ 33 V 0 1 false (.one .bh (.sl 1 (List.map (eI .u32) l))) (some 6)) ?_
 refine o_one ⟨[(0, vo i o), (3, vo i o), (4, vo i o), (5, vo i o), (6, .one .bh (.sl 1 (List.map (eI .u32) l))), (7, vi (l.length : Int))], [], H⟩ (yl ⟨[(0, vo i o), (3, vo i o), (4, vo i o), (5, vo i o), (6, .one .bh (.sl 1 (List.map (eI .u32) l)))], [], H⟩ l (eI .u32) (some 7)) ?_
 refine yr 1 ⟨[(0, vo i o), (2, vi (l.length : Int)), (3, vo i o), (4, vo i o), (5, vo i o), (6, .one .bh (.sl 1 (List.map (eI .u32) l))), (7, vi (l.length : Int))], [], H⟩ ?_
 exact ye
 refine w_ret ?_
 exact yp (vi (l.length : Int))
noncomputable def word_Sext  (p0 : Int) (p1 : Int) : Option (Int) :=
  if (decide (p1 < 1)) = true then (some 0)
  else (bind1 (shlI .u32 p0 (IntKind.wrap .i64 (32 - (if 32 < p1 then 32 else p1)))) fun v2 =>
  bind1 (shrI .i32 (IntKind.wrap .i32 v2) (IntKind.wrap .i64 (32 - (if 32 < p1 then 32 else p1)))) fun v4 =>
  some v4)
theorem ok_word_Sext (H : Heap) {p0 : Int} {p1 : Int} {ra : Int} (hF : word_Sext p0 p1 = some ra) : evS X 58 [.one .top (.int .u32 p0), .one .top (.int .i64 p1)] H = some (.one .top (.int .i32 ra), H) := by
 let E1 : EN := (0, vu p0)
 let E2 : EN := (5, vi (IntKind.wrap .i64 (32 - (if 32 < p1 then 32 else p1))))
 let E5 : EN := (12, vi (IntKind.wrap .i64 (32 - (if 32 < p1 then 32 else p1))))
 let L6 : List EN := [E1, E2, (11, vu p0), E5]
 let S8 : St := ⟨[E1, (1, vi p1)], [], H⟩
 refine yf Try.func58 true S8 ?_
 unfold word_Sext at hF
 refine ysg S8 ?_
 refine w_seq ?_
 refine ysg ⟨[E1, (1, vi p1), (7, vb (decide (p1 < 1)))], [], H⟩ ?_
 rcases if_inv hF with ⟨h1, hF⟩ | ⟨h1, hF⟩
 refine yT h1 ⟨[], [], H⟩ ?_
 refine ysg ⟨[(4, .one .top (.int .i32 0))], [], H⟩ ?_
 refine w_ret ?_
 obtain e0 := some1_inv hF
 subst e0
 exact yp (.one .top (.int .i32 0))
 refine yF h1 S8 ?_
 refine w_skip ?_
 refine ysg ⟨[E1, E2], [], H⟩ ?_
 refine w_seq ?_
 obtain ⟨v2, h3, hF⟩ := bind1_inv hF
 let L7 : List EN := [(13, vu v2), (14, .one .top (.int .i32 (IntKind.wrap .i32 v2))), (15, vi (IntKind.wrap .i64 (32 - (if 32 < p1 then 32 else p1))))]
 obtain ⟨v4, h5, hF⟩ := bind1_inv hF
 let E3 : EN := (4, .one .top (.int .i32 v4))
 let E4 : EN := (16, .one .top (.int .i32 v4))
 refine w_regO ⟨[E3], [], H⟩ ?_ ?_
 refine yr 2 ⟨L6, [], H⟩ ?_
 refine o_one ⟨L6 ++ [(13, vu v2)], [], H⟩ (st_binI (⟨L6, [], H⟩ : St) .u32 h3 (ev_shl (P := X.P) (ty := 48) (x := (.tmp 11)) (y := (.tmp 12)) (m := .top) (m' := .top) (k := .u32) (k' := .i64) (a := p0) (b := (IntKind.wrap .i64 (32 - (if 32 < p1 then 32 else p1))))) (some 13) (by kernel_rfl) (by kernel_rfl)) ?_
 refine yr 2 ⟨L6 ++ L7, [], H⟩ ?_
 refine o_one ⟨L6 ++ L7 ++ [E4], [], H⟩ (st_binI (⟨L6 ++ L7, [], H⟩ : St) .i32 h5 (ev_shr (P := X.P) (ty := 21) (x := (.tmp 14)) (y := (.tmp 15)) (m := .top) (m' := .top) (k := .i32) (k' := .i64) (a := (IntKind.wrap .i32 v2)) (b := (IntKind.wrap .i64 (32 - (if 32 < p1 then 32 else p1))))) (some 16) (by kernel_rfl) (by kernel_rfl)) ?_
 refine yr 1 ⟨[E1, E3, E2, (11, vu p0), E5] ++ L7 ++ [E4], [], H⟩ ?_
 exact ye
 refine w_ret ?_
 obtain e0 := some1_inv hF
 subst e0
 exact yp (.one .top (.int .i32 v4))
noncomputable def instr_Decode_j3 (p0 : Int) (j5 : T_instr_Instr) : Option (T_instr_Instr × Int) :=
  bind2 (instr_Encode j5) fun r6 r7 =>
  if ((r7 != 0) || (r6 != p0)) = true then (some ((T_instr_Instr.mk 0 0 0 0 0), 21))
  else (some (j5, 0))
noncomputable def instr_Decode_j5 (p0 : Int) (j15 : T_instr_Instr) : Option (T_instr_Instr × Int) :=
  instr_Decode_j3 p0 j15
noncomputable def instr_Decode_j6 (p0 : Int) (j17 : T_instr_Instr) : Option (T_instr_Instr × Int) :=
  instr_Decode_j5 p0 j17
noncomputable def instr_Decode_j7 (p0 : Int) (j21 : T_instr_Instr) : Option (T_instr_Instr × Int) :=
  instr_Decode_j6 p0 j21
noncomputable def instr_Decode_j4 (p0 : Int) (j3 : T_instr_Instr) (r1 : Int) (j14 : Bool) : Option (T_instr_Instr × Int) :=
  if j14 = true then (instr_Decode_j5 p0 (T_instr_Instr.mk j3.Op_ j3.A_ j3.B_ j3.C_ (IntKind.wrap .i64 (bitsOf .and .u32 p0 65535))))
  else (if (r1 == 7) = true then (bind1 (word_Sext p0 24) fun r19 =>
  instr_Decode_j6 p0 (T_instr_Instr.mk j3.Op_ j3.A_ j3.B_ j3.C_ (IntKind.wrap .i64 r19)))
  else (if (r1 == 5) = true then (instr_Decode_j7 p0 (T_instr_Instr.mk j3.Op_ j3.A_ j3.B_ (IntKind.wrap .i64 (bitsOf .and .u32 p0 15)) j3.Imm_))
  else (instr_Decode_j7 p0 j3)))
noncomputable def instr_Decode_j8 (p0 : Int) (j3 : T_instr_Instr) (r1 : Int) (j24 : Bool) : Option (T_instr_Instr × Int) :=
  instr_Decode_j4 p0 j3 r1 j24
noncomputable def instr_Decode_j2 (p0 : Int) (j3 : T_instr_Instr) (r1 : Int) (j4 : Bool) : Option (T_instr_Instr × Int) :=
  if j4 = true then (bind1 (word_Sext p0 16) fun r12 =>
  instr_Decode_j3 p0 (T_instr_Instr.mk j3.Op_ j3.A_ j3.B_ j3.C_ (IntKind.wrap .i64 r12)))
  else (if (r1 == 2) = true then (instr_Decode_j4 p0 j3 r1 (r1 == 2))
  else (if (r1 == 4) = true then (instr_Decode_j8 p0 j3 r1 (r1 == 4))
  else (instr_Decode_j8 p0 j3 r1 (r1 == 8))))
noncomputable def instr_Decode_j1 (r1 : Int) (p0 : Int) (j3 : T_instr_Instr) : Option (T_instr_Instr × Int) :=
  if (r1 == 1) = true then (instr_Decode_j2 p0 j3 r1 (r1 == 1))
  else (instr_Decode_j2 p0 j3 r1 (r1 == 3))
noncomputable def instr_Decode  (p0 : Int) : Option (T_instr_Instr × Int) :=
  bind1 (instr_Shape (IntKind.wrap .i64 (Int.fdiv p0 (2 ^ 24)))) fun r1 =>
  if (r1 != 7) = true then (instr_Decode_j1 r1 p0 (T_instr_Instr.mk (IntKind.wrap .i64 (Int.fdiv p0 (2 ^ 24))) (IntKind.wrap .i64 (bitsOf .and .u32 (Int.fdiv p0 (2 ^ 20)) 15)) (IntKind.wrap .i64 (bitsOf .and .u32 (Int.fdiv p0 (2 ^ 16)) 15)) 0 0))
  else (instr_Decode_j1 r1 p0 (T_instr_Instr.mk (IntKind.wrap .i64 (Int.fdiv p0 (2 ^ 24))) 0 0 0 0))
theorem ok_instr_Decode (H : Heap) {p0 : Int} {ra : T_instr_Instr} {rb : Int} (hF : instr_Decode p0 = some (ra, rb)) : evS X 51 [.one .top (.int .u32 p0)] H = some (.tup [.agg [(.top, .int .i64 ra.Op_), (.top, .int .i64 ra.A_), (.top, .int .i64 ra.B_), (.top, .int .i64 ra.C_), (.top, .int .i64 ra.Imm_)], .one .top (.int .i64 rb)], H) := by
 let E1 : EN := (2, vl 2 0)
 let B2 : EB := (2, (List.replicate 5 (.top, .int .i64 0)))
 let B3 : EB := (4, ([(.top, .int .i64 (IntKind.wrap .i64 (Int.fdiv p0 (2 ^ 24))))] ++ List.replicate 4 (.top, .int .i64 0)))
 let E4 : EN := (12, vl 4 0)
 let E5 : EN := (13, vi (IntKind.wrap .i64 (Int.fdiv p0 (2 ^ 24))))
 let E11 : EN := (31, vu p0)
 let E14 : EN := (45, vu p0)
 let L16 : List EN := [E1, (4, vl 4 0)]
 let L17 : List EN := [(0, vu p0)] ++ L16
 refine yf Try.func51 true ⟨[(0, vu p0)], [], H⟩ ?_
 unfold instr_Decode at hF
 refine ysg ⟨[(0, vu p0), E1], [B2], H⟩ ?_
 refine ysg ⟨L17, [B2, B3], H⟩ ?_
 refine w_seq ?_
 obtain ⟨r1, c2, hF⟩ := bind1_inv hF
 let L18 : List EN := L17 ++ [(27, vi r1)]
 let L19 : List EN := L17 ++ [(5, vi r1)]
 refine w_regO ⟨L19, [B2, B3], H⟩ ?_ ?_
 refine yr 2 ⟨L17 ++ [E4, E5], [B2, B3], H⟩ ?_
 refine o_one ⟨L17 ++ [E4, E5, (14, vi r1)], [B2, B3], H⟩ (yc (some 14) true false (⟨L17 ++ [E4, E5], [B2, B3], H⟩ : St) (ok_instr_Shape H c2)) ?_
 refine yr 1 ⟨L19 ++ [E4, E5, (14, vi r1)], [B2, B3], H⟩ ?_
 exact ye
 refine w_seq ?_
 refine ysg ⟨L19 ++ [(16, vb (r1 != 7))], [B2, B3], H⟩ ?_
 refine w_join (α := (T_instr_Instr)) (fun x => (⟨L19, [B2, (4, (m0_instr_Instr x))], H⟩ : St)) (fun x => instr_Decode_j1 r1 p0 x = some (ra, rb)) ?_ ?_
 rintro j3 hF
 replace hF : instr_Decode_j1 r1 p0 j3 = some (ra, rb) := hF
 let B6 : EB := (4, (m0_instr_Instr j3))
 unfold instr_Decode_j1 at hF
 refine w_seq ?_
 refine ysg ⟨L18, [B2, B6], H⟩ ?_
 refine w_block ?_
 refine w_seq ?_
 refine ysg ⟨L18 ++ [(28, vb (r1 == 1))], [B2, B6], H⟩ ?_
 refine w_join (α := (Bool)) (fun x => (⟨L18 ++ [(28, vb x)], [B2, B6], H⟩ : St)) (fun x => instr_Decode_j2 p0 j3 r1 x = some (ra, rb)) ?_ ?_
 rintro j4 hF
 replace hF : instr_Decode_j2 p0 j3 r1 j4 = some (ra, rb) := hF
 unfold instr_Decode_j2 at hF
 refine w_join (α := (T_instr_Instr)) (fun x => (⟨L17, [B2, (4, (m0_instr_Instr x))], H⟩ : St)) (fun x => instr_Decode_j3 p0 x = some (ra, rb)) ?_ ?_
 rintro j5 hF
 replace hF : instr_Decode_j3 p0 j5 = some (ra, rb) := hF
 let B7 : EB := (4, (m0_instr_Instr j5))
 let E8 : EN := (56, .agg (m0_instr_Instr j5))
 unfold instr_Decode_j3 at hF
 refine w_seq ?_
 obtain ⟨r6, r7, c8, hF⟩ := bind2_inv hF
 let E9 : EN := (57, .tup [vu r6, vi r7])
 let L20 : List EN := L17 ++ [(6, vu r6), (7, vi r7), (60, vi r7)]
 refine w_regO ⟨L17 ++ [(6, vu r6), (7, vi r7)], [B2, B7], H⟩ ?_ ?_
 refine yr 1 ⟨L17 ++ [E8], [B2, B7], H⟩ ?_
 refine o_one ⟨L17 ++ [E8, E9], [B2, B7], H⟩ (yc (some 57) true false (⟨L17 ++ [E8], [B2, B7], H⟩ : St) (ok_instr_Encode H c8)) ?_
 refine yr 5 ⟨L17 ++ [(6, vu r6), (7, vi r7), (55, .tup [vu r6, vi r7]), E8, E9, (58, vu r6), (59, vi r7)], [B2, B7], H⟩ ?_
 exact ye
 refine w_seq ?_
 refine yso ⟨L16 ++ [(66, vb ((r7 != 0) || (r6 != p0)))], [B2, B7], H⟩ ?_ ?_
 refine yr 3 ⟨L20 ++ [(61, vb (r7 != 0)), (62, vb (r7 != 0))], [B2, B7], H⟩ ?_
 rcases bool_cases (r7 != 0) with h9 | h9
 refine o_eq (congrArg (fun q => (⟨L20 ++ [(61, vb q), (62, vb q)], [B2, B7], H⟩ : St)) h9) ?_
 refine yr 4 ⟨L20 ++ [(61, vT), (62, vT), (63, vN), (64, vN), (65, vN), (66, vT)], [B2, B7], H⟩ ?_
 refine o_eq2 (congrArg (fun q0 => (⟨L16 ++ [(66, vb q0)], [B2, B7], H⟩ : St)) (show true = ((r7 != 0) || (r6 != p0)) by simp [h9])) ?_
 exact ye
 refine o_eq (congrArg (fun q => (⟨L20 ++ [(61, vb q), (62, vb q)], [B2, B7], H⟩ : St)) h9) ?_
 refine yr 4 ⟨L20 ++ [(61, vF), (62, vF), (63, vu r6), (64, vu p0), (65, vb (r6 != p0)), (66, vb (r6 != p0))], [B2, B7], H⟩ ?_
 refine o_eq2 (congrArg (fun q0 => (⟨L16 ++ [(66, vb q0)], [B2, B7], H⟩ : St)) (show (r6 != p0) = ((r7 != 0) || (r6 != p0)) by simp [h9])) ?_
 exact ye
 rcases if_inv hF with ⟨h10, hF⟩ | ⟨h10, hF⟩
 refine yT h10 ⟨[E1], [B2], H⟩ ?_
 refine ysg ⟨[E1, (3, vi 21)], [B2], H⟩ ?_
 refine w_ret ?_
 obtain ⟨e0, e1⟩ := some2_inv hF
 subst e0
 subst e1
 exact yp (.tup [.agg (List.replicate 5 (.top, .int .i64 0)), vi 21])
 refine yF h10 ⟨L16, [B2, B7], H⟩ ?_
 refine w_skip ?_
 refine ysg ⟨[E1, (3, vi 0)], [(2, (m0_instr_Instr j5))], H⟩ ?_
 refine w_ret ?_
 obtain ⟨e0, e1⟩ := some2_inv hF
 subst e0
 subst e1
 exact yp (.tup [.agg (m0_instr_Instr j5), vi 0])
 rcases if_inv hF with ⟨h11, hF⟩ | ⟨h11, hF⟩
 refine yT h11 ⟨L17, [B2, B6], H⟩ ?_
 obtain ⟨r12, c13, hF⟩ := bind1_inv hF
 let B10 : EB := (4, [(.top, .int .i64 j3.Op_), (.top, .int .i64 j3.A_), (.top, .int .i64 j3.B_), (.top, .int .i64 j3.C_), (.top, .int .i64 (IntKind.wrap .i64 r12))])
 let E12 : EN := (32, .one .top (.int .i32 r12))
 refine w_regO ⟨L17, [B2, B10], H⟩ ?_ ?_
 refine yr 1 ⟨L17 ++ [E11], [B2, B6], H⟩ ?_
 refine o_one ⟨L17 ++ [E11, E12], [B2, B6], H⟩ (yc (some 32) true false (⟨L17 ++ [E11], [B2, B6], H⟩ : St) (ok_word_Sext H c13)) ?_
 refine yr 3 ⟨L17 ++ [E11, E12, (33, vi (IntKind.wrap .i64 r12)), (34, vl 4 4)], [B2, B10], H⟩ ?_
 exact ye
 exact ⟨(T_instr_Instr.mk j3.Op_ j3.A_ j3.B_ j3.C_ (IntKind.wrap .i64 r12)), hF, (by kernel_rfl)⟩
 refine yF h11 ⟨L18, [B2, B6], H⟩ ?_
 refine w_seq ?_
 refine ysg ⟨L18 ++ [(35, vb (r1 == 2))], [B2, B6], H⟩ ?_
 refine w_join (α := (Bool)) (fun x => (⟨L18 ++ [(35, vb x)], [B2, B6], H⟩ : St)) (fun x => instr_Decode_j4 p0 j3 r1 x = some (ra, rb)) ?_ ?_
 rintro j14 hF
 replace hF : instr_Decode_j4 p0 j3 r1 j14 = some (ra, rb) := hF
 unfold instr_Decode_j4 at hF
 refine w_join (α := (T_instr_Instr)) (fun x => (⟨L17, [B2, (4, (m0_instr_Instr x))], H⟩ : St)) (fun x => instr_Decode_j5 p0 x = some (ra, rb)) ?_ ?_
 rintro j15 hF
 replace hF : instr_Decode_j5 p0 j15 = some (ra, rb) := hF
 unfold instr_Decode_j5 at hF
 exact ⟨j15, hF, (by kernel_rfl)⟩
 rcases if_inv hF with ⟨h16, hF⟩ | ⟨h16, hF⟩
 refine yT h16 ⟨L17, [B2, B6], H⟩ ?_
 refine yg ⟨L17, [B2, (4, [(.top, .int .i64 j3.Op_), (.top, .int .i64 j3.A_), (.top, .int .i64 j3.B_), (.top, .int .i64 j3.C_), (.top, .int .i64 (IntKind.wrap .i64 (bitsOf .and .u32 p0 65535)))])], H⟩ ?_
 exact ⟨(T_instr_Instr.mk j3.Op_ j3.A_ j3.B_ j3.C_ (IntKind.wrap .i64 (bitsOf .and .u32 p0 65535))), hF, (by kernel_rfl)⟩
 refine yF h16 ⟨L18, [B2, B6], H⟩ ?_
 refine ysg ⟨L18 ++ [(43, vb (r1 == 7))], [B2, B6], H⟩ ?_
 refine w_join (α := (T_instr_Instr)) (fun x => (⟨L17, [B2, (4, (m0_instr_Instr x))], H⟩ : St)) (fun x => instr_Decode_j6 p0 x = some (ra, rb)) ?_ ?_
 rintro j17 hF
 replace hF : instr_Decode_j6 p0 j17 = some (ra, rb) := hF
 unfold instr_Decode_j6 at hF
 exact ⟨j17, hF, (by kernel_rfl)⟩
 rcases if_inv hF with ⟨h18, hF⟩ | ⟨h18, hF⟩
 refine yT h18 ⟨L17, [B2, B6], H⟩ ?_
 obtain ⟨r19, c20, hF⟩ := bind1_inv hF
 let B13 : EB := (4, [(.top, .int .i64 j3.Op_), (.top, .int .i64 j3.A_), (.top, .int .i64 j3.B_), (.top, .int .i64 j3.C_), (.top, .int .i64 (IntKind.wrap .i64 r19))])
 let E15 : EN := (46, .one .top (.int .i32 r19))
 refine w_regO ⟨L17, [B2, B13], H⟩ ?_ ?_
 refine yr 1 ⟨L17 ++ [E14], [B2, B6], H⟩ ?_
 refine o_one ⟨L17 ++ [E14, E15], [B2, B6], H⟩ (yc (some 46) true false (⟨L17 ++ [E14], [B2, B6], H⟩ : St) (ok_word_Sext H c20)) ?_
 refine yr 3 ⟨L17 ++ [E14, E15, (47, vi (IntKind.wrap .i64 r19)), (48, vl 4 4)], [B2, B13], H⟩ ?_
 exact ye
 exact ⟨(T_instr_Instr.mk j3.Op_ j3.A_ j3.B_ j3.C_ (IntKind.wrap .i64 r19)), hF, (by kernel_rfl)⟩
 refine yF h18 ⟨L18, [B2, B6], H⟩ ?_
 refine ysg ⟨L17 ++ [(49, vb (r1 == 5))], [B2, B6], H⟩ ?_
 refine w_join (α := (T_instr_Instr)) (fun x => (⟨L17, [B2, (4, (m0_instr_Instr x))], H⟩ : St)) (fun x => instr_Decode_j7 p0 x = some (ra, rb)) ?_ ?_
 rintro j21 hF
 replace hF : instr_Decode_j7 p0 j21 = some (ra, rb) := hF
 unfold instr_Decode_j7 at hF
 exact ⟨j21, hF, (by kernel_rfl)⟩
 rcases if_inv hF with ⟨h22, hF⟩ | ⟨h22, hF⟩
 refine yT h22 ⟨L17, [B2, B6], H⟩ ?_
 refine yg ⟨L17, [B2, (4, [(.top, .int .i64 j3.Op_), (.top, .int .i64 j3.A_), (.top, .int .i64 j3.B_), (.top, .int .i64 (IntKind.wrap .i64 (bitsOf .and .u32 p0 15))), (.top, .int .i64 j3.Imm_)])], H⟩ ?_
 exact ⟨(T_instr_Instr.mk j3.Op_ j3.A_ j3.B_ (IntKind.wrap .i64 (bitsOf .and .u32 p0 15)) j3.Imm_), hF, (by kernel_rfl)⟩
 refine yF h22 ⟨L17, [B2, B6], H⟩ ?_
 refine w_skip ?_
 exact ⟨j3, hF, (by kernel_rfl)⟩
 rcases if_inv hF with ⟨h23, hF⟩ | ⟨h23, hF⟩
 refine yT h23 ⟨L18 ++ [(35, vb (r1 == 2))], [B2, B6], H⟩ ?_
 refine w_skip ?_
 exact ⟨(r1 == 2), hF, (by kernel_rfl)⟩
 refine yF h23 ⟨L18, [B2, B6], H⟩ ?_
 refine ysg ⟨L18 ++ [(35, vb (r1 == 4))], [B2, B6], H⟩ ?_
 refine w_join (α := (Bool)) (fun x => (⟨L18 ++ [(35, vb x)], [B2, B6], H⟩ : St)) (fun x => instr_Decode_j8 p0 j3 r1 x = some (ra, rb)) ?_ ?_
 rintro j24 hF
 replace hF : instr_Decode_j8 p0 j3 r1 j24 = some (ra, rb) := hF
 unfold instr_Decode_j8 at hF
 exact ⟨j24, hF, (by kernel_rfl)⟩
 rcases if_inv hF with ⟨h25, hF⟩ | ⟨h25, hF⟩
 refine yT h25 ⟨L18 ++ [(35, vb (r1 == 4))], [B2, B6], H⟩ ?_
 refine w_skip ?_
 exact ⟨(r1 == 4), hF, (by kernel_rfl)⟩
 refine yF h25 ⟨L18, [B2, B6], H⟩ ?_
 refine yg ⟨L18 ++ [(35, vb (r1 == 8))], [B2, B6], H⟩ ?_
 exact ⟨(r1 == 8), hF, (by kernel_rfl)⟩
 rcases if_inv hF with ⟨h26, hF⟩ | ⟨h26, hF⟩
 refine yT h26 ⟨L18 ++ [(28, vb (r1 == 1))], [B2, B6], H⟩ ?_
 refine w_skip ?_
 exact ⟨(r1 == 1), hF, (by kernel_rfl)⟩
 refine yF h26 ⟨L18, [B2, B6], H⟩ ?_
 refine yg ⟨L18 ++ [(28, vb (r1 == 3))], [B2, B6], H⟩ ?_
 exact ⟨(r1 == 3), hF, (by kernel_rfl)⟩
 rcases if_inv hF with ⟨h27, hF⟩ | ⟨h27, hF⟩
 refine yT h27 ⟨L19, [B2, B3], H⟩ ?_
 refine yg ⟨L19, [B2, (4, [(.top, .int .i64 (IntKind.wrap .i64 (Int.fdiv p0 (2 ^ 24)))), (.top, .int .i64 (IntKind.wrap .i64 (bitsOf .and .u32 (Int.fdiv p0 (2 ^ 20)) 15))), (.top, .int .i64 (IntKind.wrap .i64 (bitsOf .and .u32 (Int.fdiv p0 (2 ^ 16)) 15))), (.top, .int .i64 0), (.top, .int .i64 0)])], H⟩ ?_
 exact ⟨(T_instr_Instr.mk (IntKind.wrap .i64 (Int.fdiv p0 (2 ^ 24))) (IntKind.wrap .i64 (bitsOf .and .u32 (Int.fdiv p0 (2 ^ 20)) 15)) (IntKind.wrap .i64 (bitsOf .and .u32 (Int.fdiv p0 (2 ^ 16)) 15)) 0 0), hF, (by kernel_rfl)⟩
 refine yF h27 ⟨L19, [B2, B3], H⟩ ?_
 refine w_skip ?_
 exact ⟨(T_instr_Instr.mk (IntKind.wrap .i64 (Int.fdiv p0 (2 ^ 24))) 0 0 0 0), hF, (by kernel_rfl)⟩
noncomputable def emit_Code_set (H : Heap) (p0 : Ptr) (p1 : Int) (p2 : Int) : Option (Heap) :=
  bind2 (if (decide (p1 < 0)) = true then (some (p0, true)) else ((p0).bnd fun i2 o3 =>
  bind1 (get_emit_Code H i2 o3) fun x5 =>
  some ((Ptr.at i2 o3), (decide (p1 ≥ (x5.words_.length : Int)))))) fun w7 w8 =>
  if w8 = true then (bind1 (emit_Code_Fail H w7 52) fun H12 =>
  some H12)
  else ((w7).bnd fun i13 o14 =>
  bind1 (get_emit_Code H i13 o14) fun x16 =>
  bind1 (gi x16.words_ p1) fun x18 =>
  bind2 (instr_Decode x18) fun r20 r21 =>
  bind2 (instr_Encode (T_instr_Instr.mk r20.Op_ r20.A_ r20.B_ r20.C_ p2)) fun r23 r24 =>
  if (r24 != 0) = true then (bind1 (emit_Code_Fail H (Ptr.at i13 o14) 52) fun H28 =>
  some H28)
  else (bind1 (gi x16.words_ p1) fun x29 =>
  bind1 (si x16.words_ p1 r23) fun v31 =>
  bnd (set_emit_Code H i13 o14 (T_emit_Code.mk v31 x16.fixups_ x16.marks_ x16.pads_ x16.active_ x16.depth_ x16.most_ x16.err_)) fun H33 =>
  some H33))
theorem ok_emit_Code_set (H : Heap) {p0 : Ptr} {p1 : Int} {p2 : Int} {Hr : Heap} (hF : emit_Code_set H p0 p1 p2 = some Hr) : evS X 26 [.one .top (Ptr.av p0), .one .top (.int .i64 p1), .one .top (.int .i64 p2)] H = some (.tup [], Hr) := by
 let L18 : List EN := [(1, vi p1), (2, vi p2)]
 let L22 : List EN := L18 ++ [(10, vi p1), (11, vF), (12, vF), (13, vi p1)]
 let L28 : Ptr → List EN := fun z0 => [(0, vp z0)] ++ L18 ++ [(10, vi p1)]
 refine yf Try.func26 false ⟨[(0, vp p0)] ++ L18, [], H⟩ ?_
 unfold emit_Code_set at hF
 refine w_seq ?_
 refine w_seq ?_
 obtain ⟨w7, w8, hB9, hF⟩ := bind2_inv hF
 let E2 : Ptr → EN := fun z0 => (0, vp z0)
 let S30 : Ptr → St := fun z0 => ⟨[(E2 z0), (21, vp z0)], [], H⟩
 refine w_regO ⟨[(E2 w7)] ++ L18 ++ [(20, vb w8)], [], H⟩ ?_ ?_
 refine yr 3 ⟨(L28 p0) ++ [(11, vb (decide (p1 < 0))), (12, vb (decide (p1 < 0)))], [], H⟩ ?_ (h := (by generalize p0 = qp0; cases qp0 <;> kernel_rfl))
 rcases if_inv hB9 with ⟨h1, hB9⟩ | ⟨h1, hB9⟩
 refine o_eq (congrArg (fun q => (⟨(L28 p0) ++ [(11, vb q), (12, vb q)], [], H⟩ : St)) h1) ?_
 refine yr 8 ⟨(L28 p0) ++ [(11, vT), (12, vT), (13, vN), (14, vN), (15, vN), (16, vN), (17, vN), (18, vN), (19, vN), (20, vT)], [], H⟩ ?_ (h := (by generalize p0 = qp0; cases qp0 <;> kernel_rfl))
 cases hB9
 exact ye
 refine o_eq (congrArg (fun q => (⟨(L28 p0) ++ [(11, vb q), (12, vb q)], [], H⟩ : St)) h1) ?_
 refine yr 2 ⟨[(0, vp p0)] ++ L22 ++ [(14, vp p0)], [], H⟩ ?_ (h := (by generalize p0 = qp0; cases qp0 <;> kernel_rfl))
 obtain ⟨i2, o3, h4, hB9⟩ := pbnd_inv hB9
 let E3 : EN := (16, vo i2 o3)
 let L24 : List EN := [(0, vo i2 o3)] ++ L22 ++ [(14, vo i2 o3), (15, vo i2 o3)]
 refine o_eq (congrArg (fun q => (⟨[(0, vp q)] ++ L22 ++ [(14, vp q)], [], H⟩ : St)) h4) ?_
 refine yr 1 ⟨L24, [], H⟩ ?_
 obtain ⟨x5, V6, hB9⟩ := bind1_inv hB9
 replace V6 := hgetT_inv V6
 let E4 : EN := (18, vi (x5.words_.length : Int))
 let L29 : List EN := L24 ++ [E3, (17, .one .bh (.sl 1 (List.map (eI .u32) x5.words_)))]
 refine yr 1 ⟨L24 ++ [E3], [], H⟩ ?_
 refine o_one ⟨L29, [], H⟩ (yd (X := X) (⟨L24 ++ [E3], [], H⟩ : St) 33 V6 0 1 false (.one .bh (.sl 1 (List.map (eI .u32) x5.words_))) (some 17)) ?_
 refine o_one ⟨L29 ++ [E4], [], H⟩ (yl (⟨L29, [], H⟩ : St) x5.words_ (eI .u32) (some 18)) ?_
 refine yr 2 ⟨L29 ++ [E4, (19, vb (decide (p1 ≥ (x5.words_.length : Int)))), (20, vb (decide (p1 ≥ (x5.words_.length : Int))))], [], H⟩ ?_
 cases hB9
 exact ye
 rcases if_inv hF with ⟨h10, hF⟩ | ⟨h10, hF⟩
 refine yT h10 ⟨[(E2 w7)], [], H⟩ ?_
 refine w_seq ?_
 obtain ⟨H12, c11, hF⟩ := bind1_inv hF
 refine w_regO ⟨[], [], H12⟩ ?_ ?_
 refine yr 1 (S30 w7) ?_ (h := (by generalize w7 = qp0; cases qp0 <;> kernel_rfl))
 refine o_one ⟨[(E2 w7), (21, vp w7), (22, vN)], [], H12⟩ (yc (some 22) false false (S30 w7) (ok_emit_Code_Fail H c11) (hr := (by generalize w7 = qp0; cases qp0 <;> kernel_rfl)) (hs := (by generalize w7 = qp0; cases qp0 <;> kernel_rfl))) ?_
 exact ye
 refine w_ret ?_
 obtain e0 := some1_inv hF
 subst e0
 exact yi (vN)
 refine yF h10 ⟨[(E2 w7)] ++ L18, [], H⟩ ?_
 refine w_skip ?_
 refine w_seq ?_
 obtain ⟨i13, o14, h15, hF⟩ := pbnd_inv hF
 let E5 : EN := (0, vo i13 o14)
 let E7 : EN := (24, vo i13 o14)
 let E8 : EN := (25, vo i13 o14)
 let E16 : EN := (43, vo i13 o14)
 let L21 : List EN := [E5] ++ L18 ++ [E7, E8, (26, vo i13 o14)]
 let L26 : List EN := [E5, (1, vi p1), (6, vl 6 0)]
 obtain ⟨x16, V17, hF⟩ := bind1_inv hF
 replace V17 := hgetT_inv V17
 let E9 : EN := (27, .one .bh (.sl 1 (List.map (eI .u32) x16.words_)))
 let E17 : EN := (48, .one .top (.at_ (.obj i13 o14) 0 ((List.map (eI .u32) x16.words_).length)))
 let L25 : List EN := L21 ++ [E9, (28, vi p1)]
 obtain ⟨x18, h19, hF⟩ := bind1_inv hF
 let E10 : EN := (29, .one .top (.rd .bh .bh [.int .u32 x18] 0))
 let E11 : EN := (30, vu x18)
 obtain ⟨r20, r21, c22, hF⟩ := bind2_inv hF
 let B6 : EB := (6, (m0_instr_Instr r20))
 let E12 : EN := (31, .tup [.agg (m0_instr_Instr r20), vi r21])
 let B13 : EB := (6, [(.top, .int .i64 r20.Op_), (.top, .int .i64 r20.A_), (.top, .int .i64 r20.B_), (.top, .int .i64 r20.C_), (.top, .int .i64 p2)])
 let E14 : EN := (37, .agg [(.top, .int .i64 r20.Op_), (.top, .int .i64 r20.A_), (.top, .int .i64 r20.B_), (.top, .int .i64 r20.C_), (.top, .int .i64 p2)])
 refine w_regO ⟨[E5] ++ L18 ++ [(6, vl 6 0)], [B6], H⟩ ?_ ?_
 refine yr 1 ⟨[(E2 w7)] ++ L18 ++ [(24, vp w7)], [], H⟩ ?_ (h := (by generalize w7 = qp0; cases qp0 <;> kernel_rfl))
 refine o_eq (congrArg (fun q => (⟨[(0, vp q)] ++ L18 ++ [(24, vp q)], [], H⟩ : St)) h15) ?_
 refine yr 1 ⟨[E5] ++ L18 ++ [E7, E8], [], H⟩ ?_
 refine yr 1 ⟨L21, [], H⟩ ?_
 refine o_one ⟨L21 ++ [E9], [], H⟩ (yd (X := X) (⟨L21, [], H⟩ : St) 33 V17 0 1 false (.one .bh (.sl 1 (List.map (eI .u32) x16.words_))) (some 27)) ?_
 refine yr 1 ⟨L25, [], H⟩ ?_
 refine o_one ⟨L25 ++ [E10], [], H⟩ (st_ix (X := X) (⟨L25, [], H⟩ : St) 33 48 1 h19 (eI .u32) .bh (some 29) (by kernel_rfl) (by kernel_rfl) (by kernel_rfl) (by kernel_rfl)) ?_
 refine yr 1 ⟨L25 ++ [E10, E11], [], H⟩ ?_
 refine o_one ⟨L25 ++ [E10, E11, E12], [], H⟩ (yc (some 31) true false (⟨L25 ++ [E10, E11], [], H⟩ : St) (ok_instr_Decode H c22)) ?_
 refine yr 6 ⟨[E5] ++ L18 ++ [(6, vl 6 0), (7, vi r21), (23, .tup [.agg (m0_instr_Instr r20), vi r21]), E7, E8, (26, vo i13 o14), E9, (28, vi p1), E10, E11, E12, (32, .agg (m0_instr_Instr r20)), (33, vi r21)], [B6], H⟩ ?_
 exact ye
 refine ysg ⟨L26, [B13], H⟩ ?_
 refine w_seq ?_
 obtain ⟨r23, r24, c25, hF⟩ := bind2_inv hF
 let E15 : EN := (38, .tup [vu r23, vi r24])
 let L19 : List EN := [E5, (1, vi p1), (8, vu r23)]
 let L20 : List EN := L19 ++ [(45, vo i13 o14), (46, vo i13 o14), (47, vo i13 o14)]
 let L23 : List EN := L20 ++ [E17, (49, vi p1), (50, vu r23)]
 let L27 : List EN := L23 ++ [(51, .one .top (.el (.obj i13 o14) (Int.toNat p1) 0))]
 refine w_regO ⟨L19 ++ [(9, vi r24)], [], H⟩ ?_ ?_
 refine yr 1 ⟨L26 ++ [E14], [B13], H⟩ ?_
 refine o_one ⟨L26 ++ [E14, E15], [B13], H⟩ (yc (some 38) true false (⟨L26 ++ [E14], [B13], H⟩ : St) (ok_instr_Encode H c25)) ?_
 refine yr 5 ⟨L26 ++ [(8, vu r23), (9, vi r24), (36, .tup [vu r23, vi r24]), E14, E15, (39, vu r23), (40, vi r24)], [B13], H⟩ ?_
 exact ye
 refine w_seq ?_
 refine ysg ⟨L19 ++ [(42, vb (r24 != 0))], [], H⟩ ?_
 rcases if_inv hF with ⟨h26, hF⟩ | ⟨h26, hF⟩
 refine yT h26 ⟨[E5], [], H⟩ ?_
 refine w_seq ?_
 obtain ⟨H28, c27, hF⟩ := bind1_inv hF
 refine w_regO ⟨[], [], H28⟩ ?_ ?_
 refine yr 1 ⟨[E5, E16], [], H⟩ ?_
 refine o_one ⟨[E5, E16, (44, vN)], [], H28⟩ (yc (some 44) false false (⟨[E5, E16], [], H⟩ : St) (ok_emit_Code_Fail H c27)) ?_
 exact ye
 refine w_ret ?_
 obtain e0 := some1_inv hF
 subst e0
 exact yi (vN)
 refine yF h26 ⟨L19, [], H⟩ ?_
 refine w_skip ?_
 obtain ⟨x29, h30, hF⟩ := bind1_inv hF
 obtain ⟨v31, h32, hF⟩ := bind1_inv hF
 let W1 : Heap := hset H i13 o14 [((.own 1), .sl 1 (List.map (eI .u32) v31)), ((.own 1), .sl 4 (List.map e_api_Fixup x16.fixups_)), ((.own 1), .sl 2 (List.map e_api_Segment x16.marks_.list_)), ((.own 1), .sl 1 (List.map (eI .i64) x16.pads_)), ((.own 1), .sl 1 (List.map (eI .i64) x16.active_)), (.top, .int .i64 x16.depth_), (.top, .int .i64 x16.most_), (.top, .int .i64 x16.err_)]
 obtain ⟨H33, h34, hF⟩ := bnd_inv hF
 have V35 : hget H33 i13 o14 8 = some (o_emit_Code (T_emit_Code.mk v31 x16.fixups_ x16.marks_ x16.pads_ x16.active_ x16.depth_ x16.most_ x16.err_)) := by rw [← h34]; exact hset_get V17 rfl
 refine w_regO ⟨[], [], H33⟩ ?_ ?_
 refine yr 3 ⟨L20, [], H⟩ ?_
 refine o_one ⟨L20 ++ [E17], [], H⟩ (st_ldP (X := X) (⟨L20, [], H⟩ : St) 33 V17 0 0 1 (List.map (eI .u32) x16.words_) (some 48) (by kernel_rfl) (by kernel_rfl) (by kernel_rfl) (by kernel_rfl) (by kernel_rfl) (by kernel_rfl)) ?_
 refine yr 2 ⟨L23, [], H⟩ ?_
 refine o_one ⟨L27, [], H⟩ (st_ixA (X := X) (⟨L23, [], H⟩ : St) 33 48 1 h30 (eI .u32) (.obj i13 o14) 0 (List.map (eI .u32) x16.words_).length 0 (some 51) (by kernel_rfl) (by kernel_rfl) (by kernel_rfl) (at_obj (k := 0) (c := ((.own 1), .sl 1 (List.map (eI .u32) x16.words_))) V17 (by kernel_rfl) (by kernel_rfl)) rfl (List.length_map _) (by kernel_rfl)) ?_
 refine o_one ⟨L27, [], W1⟩ (st_stE (X := X) (⟨L27, [], H⟩ : St) (⟨L27, [], W1⟩ : St) ⟨false, []⟩ 48 (.obj i13 o14) (Int.toNat p1) 0 1 0 (List.map (eI .u32) x16.words_) [.int .u32 x29] ((eI .u32) r23) (List.map (eI .u32) v31) 1 (vu r23) (by kernel_rfl) (by kernel_rfl) (by kernel_rfl) (by kernel_rfl) (by kernel_rfl) (at_obj (k := 0) (c := ((.own 1), .sl 1 (List.map (eI .u32) x16.words_))) V17 (by kernel_rfl) (by kernel_rfl)) (el_at h30) (by kernel_rfl) (by kernel_rfl) (el_put h32) (root_obj (k := 0) V17 (by kernel_rfl) (hset_sub0 (k := 0) V17 (Nat.le_of_ble_eq_true rfl))) (by kernel_rfl)) ?_
 refine o_eq (congrArg (fun q => (⟨L27, [], q⟩ : St)) h34) ?_
 exact ye
 obtain e0 := some1_inv hF
 subst e0
 exact yi (vN)
noncomputable def emit_Code_Land (H : Heap) (p0 : Ptr) (p1 : Int) : Option (Heap) :=
  bind1 (emit_Code_Here H p0) fun r1 =>
  bind1 (emit_Code_set H p0 p1 (IntKind.wrap .i64 ((IntKind.wrap .i64 (r1 - p1)) - 1))) fun H4 =>
  some H4
theorem ok_emit_Code_Land (H : Heap) {p0 : Ptr} {p1 : Int} {Hr : Heap} (hF : emit_Code_Land H p0 p1 = some Hr) : evS X 13 [.one .top (Ptr.av p0), .one .top (.int .i64 p1)] H = some (.tup [], Hr) := by
 let L1 : Ptr → List EN := fun z0 => [(0, vp z0), (1, vi p1), (4, vp z0), (5, vi p1), (6, vp z0)]
 refine yf Try.func13 false ⟨[(0, vp p0), (1, vi p1)], [], H⟩ ?_
 unfold emit_Code_Land at hF
 obtain ⟨r1, c2, hF⟩ := bind1_inv hF
 let L2 : Ptr → List EN := fun z0 => (L1 z0) ++ [(7, vi r1), (8, vi p1), (9, vi (IntKind.wrap .i64 (r1 - p1))), (10, vi (IntKind.wrap .i64 ((IntKind.wrap .i64 (r1 - p1)) - 1)))]
 obtain ⟨H4, c3, hF⟩ := bind1_inv hF
 refine w_regO ⟨[], [], H4⟩ ?_ ?_
 refine yr 3 ⟨(L1 p0), [], H⟩ ?_ (h := (by generalize p0 = qp0; cases qp0 <;> kernel_rfl))
 refine o_one ⟨(L1 p0) ++ [(7, vi r1)], [], H⟩ (yc (some 7) true false (⟨(L1 p0), [], H⟩ : St) (ok_emit_Code_Here H c2) (hr := (by generalize p0 = qp0; cases qp0 <;> kernel_rfl)) (hs := (by generalize p0 = qp0; cases qp0 <;> kernel_rfl))) ?_
 refine yr 3 ⟨(L2 p0), [], H⟩ ?_ (h := (by generalize p0 = qp0; cases qp0 <;> kernel_rfl))
 refine o_one ⟨(L2 p0) ++ [(11, vN)], [], H4⟩ (yc (some 11) false false (⟨(L2 p0), [], H⟩ : St) (ok_emit_Code_set H c3) (hr := (by generalize p0 = qp0; cases qp0 <;> kernel_rfl)) (hs := (by generalize p0 = qp0; cases qp0 <;> kernel_rfl))) ?_
 exact ye
 obtain e0 := some1_inv hF
 subst e0
 exact yi (vN)
noncomputable def slices_Clone_api_Segment_api_Segment  (p0 : (List T_api_Segment)) : Option ((List T_api_Segment)) :=
  bind1 (app 16 ([] : List T_api_Segment) p0) fun v1 =>
  some v1
theorem ok_slices_Clone_api_Segment_api_Segment (H : Heap) {p0 : (List T_api_Segment)} {ra : (List T_api_Segment)} (hF : slices_Clone_api_Segment_api_Segment p0 = some ra) : evS X 47 [.one .bh (.sl 2 (List.map e_api_Segment p0))] H = some (.one (.own 1) (.sl 2 (List.map e_api_Segment ra)), H) := by
 let E1 : EN := (0, .one .bh (.sl 2 (List.map e_api_Segment p0)))
 let E2 : EN := (2, .one (.own 1) (.sl 2 (List.map e_api_Segment ([] : List T_api_Segment))))
 let E3 : EN := (3, .one .bh (.sl 2 (List.map e_api_Segment p0)))
 let E4 : EN := (5, .one (.own 1) (.sl 2 (List.map e_api_Segment ([] : List T_api_Segment))))
 let E5 : EN := (6, .one .bh (.sl 2 (List.map e_api_Segment p0)))
 let E6 : EN := (5, .one .top .junk)
 let S8 : St := ⟨[E1], [], H⟩
 refine k_fun Try.func47 rfl (by kernel_rfl) (by kernel_rfl) (by kernel_rfl) (s0 := S8) (by kernel_rfl) ?_
 unfold slices_Clone_api_Segment_api_Segment at hF
 obtain ⟨v1, h2, hF⟩ := bind1_inv hF
 let E7 : EN := (2, .one (.own 1) (.sl 2 (List.map e_api_Segment v1)))
 obtain e0 := some1_inv hF
 subst e0
 refine k_seq ?_
 refine k_region ?_
 refine k_step (⟨[E1, E2], [], H⟩ : St) (by kernel_rfl) (by kernel_rfl) ?_
 refine k_done S8 (by kernel_rfl) ?_
 refine k_seq ?_
 refine k_seq ?_
 refine k_region ?_
 refine k_step (⟨[E1, E3], [], H⟩ : St) (by kernel_rfl) (by kernel_rfl) ?_
 refine k_nil (d := 4) (t := 34) (x := .tmp 3) (m := .bh) (z := 2) (xs := List.map e_api_Segment p0) (⟨[E1, E3, (4, vT)], [], H⟩ : St) (⟨[E1, E3, (4, vF)], [], H⟩ : St) (by kernel_rfl) (by kernel_rfl) (by kernel_rfl) (by kernel_rfl) ?_ ?_
 intro hx
 obtain rfl := List.map_eq_nil_iff.1 hx
 obtain rfl := app_nil h2
 refine k_done (⟨[E1, (4, vT)], [], H⟩ : St) (by kernel_rfl) ?_
 refine k_condT (m := .top) (by kernel_rfl) (s1 := (⟨[], [], H⟩ : St)) (by kernel_rfl) ?_
 refine k_seq ?_
 refine k_region ?_
 refine k_step (⟨[E2], [], H⟩ : St) (by kernel_rfl) (by kernel_rfl) ?_
 refine k_done (⟨[E2], [], H⟩ : St) (by kernel_rfl) ?_
 refine k_ret ?_
 exact k_fin (v := .one (.own 1) (.sl 2 (List.map e_api_Segment ([] : List T_api_Segment)))) (by kernel_rfl) (by kernel_rfl) rfl
 refine k_done (⟨[E1, (4, vF)], [], H⟩ : St) (by kernel_rfl) ?_
 refine k_condF (m := .top) (by kernel_rfl) (s1 := S8) (by kernel_rfl) ?_
 refine k_skip ?_
 refine k_seq ?_
 refine k_region ?_
 refine k_step (⟨[E1, E4], [], H⟩ : St) (by kernel_rfl) (by kernel_rfl) ?_
 refine k_step (⟨[E1, E4, E5], [], H⟩ : St) (by kernel_rfl) (by kernel_rfl) ?_
 refine k_step (⟨[E1, E6, E5, (7, .one (.own 1) (.sl 2 (List.map e_api_Segment v1)))], [], H⟩ : St) (by kernel_rfl) (st_app (X := X) (⟨[E1, E6, E5], [], H⟩ : St) 16 h2 34 34 65 2 0 [(.top, .int .i64 0), (.top, .int .i64 0)] .bh e_api_Segment 9 (some 7) (by kernel_rfl) (by kernel_rfl) (by kernel_rfl) (by kernel_rfl) (by kernel_rfl) (by kernel_rfl) (by kernel_rfl) (by kernel_rfl) (depth_flat rfl fun _ => rfl) (fun _ => rfl) (by kernel_rfl)) ?_
 refine k_step (⟨[E1, E7, E6, E5, (7, .one .top .junk)], [], H⟩ : St) (by kernel_rfl) (by kernel_rfl) ?_
 refine k_done (⟨[E7], [], H⟩ : St) (by kernel_rfl) ?_
 refine k_ret ?_
 exact k_fin (v := .one (.own 1) (.sl 2 (List.map e_api_Segment v1))) (by kernel_rfl) (by kernel_rfl) rfl
noncomputable def ranges_Builder_List (H : Heap) (p0 : Ptr) : Option ((List T_api_Segment)) :=
  (p0).bnd fun i1 o2 =>
  bind1 (get_ranges_Builder H i1 o2) fun x4 =>
  bind1 (slices_Clone_api_Segment_api_Segment x4.list_) fun r6 =>
  some r6
theorem ok_ranges_Builder_List (H : Heap) {p0 : Ptr} {ra : (List T_api_Segment)} (hF : ranges_Builder_List H p0 = some ra) : evS X 22 [.one .top (Ptr.av p0)] H = some (.one (.own 1) (.sl 2 (List.map e_api_Segment ra)), H) := by
 refine yf Try.func22 true ⟨[(0, vp p0)], [], H⟩ ?_
 unfold ranges_Builder_List at hF
 refine ysg ⟨[(0, vp p0)], [], H⟩ ?_ (h := (by generalize p0 = qp0; cases qp0 <;> kernel_rfl))
 refine w_seq ?_
 obtain ⟨i1, o2, h3, hF⟩ := pbnd_inv hF
 let L3 : List EN := [(0, vo i1 o2), (3, vo i1 o2), (4, vo i1 o2), (5, vo i1 o2)]
 obtain ⟨x4, V5, hF⟩ := bind1_inv hF
 replace V5 := hgetT_inv V5
 let E2 : EN := (6, .one .bh (.sl 2 (List.map e_api_Segment x4.list_)))
 obtain ⟨r6, c7, hF⟩ := bind1_inv hF
 let E1 : EN := (2, .one (.own 1) (.sl 2 (List.map e_api_Segment r6)))
 refine w_regO ⟨[E1], [], H⟩ ?_ ?_
 refine yr 1 ⟨[(0, vp p0), (3, vp p0)], [], H⟩ ?_ (h := (by generalize p0 = qp0; cases qp0 <;> kernel_rfl))
 refine o_eq (congrArg (fun q => (⟨[(0, vp q), (3, vp q)], [], H⟩ : St)) h3) ?_
 refine yr 1 ⟨[(0, vo i1 o2), (3, vo i1 o2), (4, vo i1 o2)], [], H⟩ ?_
 refine yr 1 ⟨L3, [], H⟩ ?_
 refine o_one ⟨L3 ++ [E2], [], H⟩ (yd (X := X) (⟨L3, [], H⟩ : St) 34 V5 0 1 false (.one .bh (.sl 2 (List.map e_api_Segment x4.list_))) (some 6)) ?_
 refine o_one ⟨L3 ++ [E2, (7, .one (.own 1) (.sl 2 (List.map e_api_Segment r6)))], [], H⟩ (yc (some 7) true false (⟨L3 ++ [E2], [], H⟩ : St) (ok_slices_Clone_api_Segment_api_Segment H c7)) ?_
 refine yr 1 ⟨[(0, vo i1 o2), E1, (3, vo i1 o2), (4, vo i1 o2), (5, vo i1 o2), E2, (7, .one .top .junk)], [], H⟩ ?_
 exact ye
 refine w_ret ?_
 obtain e0 := some1_inv hF
 subst e0
 exact yp (.one (.own 1) (.sl 2 (List.map e_api_Segment r6)))
noncomputable def emit_Code_Finish_j2 (H16 : Heap) (i8 : Nat) (a15 : Int) (j23 : T_api_Segment) : Option ((Int × Heap) ⊕ ((Heap))) :=
  bind1 (ranges_Builder_Mark H16 (Ptr.at i8 0) j23.Start_ j23.Pad_) fun H25 =>
  some (Sum.inl ((IntKind.wrap .i64 (a15 + 1)), H25))
noncomputable def emit_Code_Finish_L1 (r13 : (List T_api_Segment)) (i1 : Nat) (o2 : Nat) (i8 : Nat) (a15 : Int) (H16 : Heap) : Option ((Int × Heap) ⊕ ((Heap))) :=
  if (decide (a15 < (r13.length : Int))) = true then (bind1 (gi r13 a15) fun x18 =>
  bind1 (get_emit_Code H16 i1 o2) fun x20 =>
  if (decide (x18.Start_ ≥ (x20.words_.length : Int))) = true then (some (Sum.inr H16))
  else (if (x18.Pad_ != (-1)) = true then (bind1 (gi x20.pads_ x18.Pad_) fun x27 =>
  emit_Code_Finish_j2 H16 i8 a15 (T_api_Segment.mk x18.Start_ x27))
  else (emit_Code_Finish_j2 H16 i8 a15 x18)))
  else (some (Sum.inr H16))
noncomputable def emit_Code_Finish (H : Heap) (p0 : Ptr) : Option (Heap × T_emit_Result × Int) :=
  (p0).bnd fun i1 o2 =>
  bind1 (get_emit_Code H i1 o2) fun x4 =>
  if (x4.err_ != 0) = true then (some (H, (T_emit_Result.mk ([] : List Int) ([] : List T_api_Fixup) ([] : List T_api_Segment)), x4.err_))
  else (bnd H.length fun i8 =>
  bnd (new_ranges_Builder H (T_ranges_Builder.mk ([] : List T_api_Segment))) fun H7 =>
  bind1 (get_emit_Code H7 i1 o2) fun x11 =>
  bind1 (ranges_Builder_List H7 (Ptr.at i1 (o2 + 2))) fun r13 =>
  bind1 (loopO (fun (x : (Int × Heap)) => emit_Code_Finish_L1 r13 i1 o2 i8 x.1 x.2) (0, H7)) (fun H31 =>
  bind1 (get_emit_Code H31 i1 o2) fun x32 =>
  bind1 (app 4 ([] : List Int) x32.words_) fun v34 =>
  bind1 (app 32 ([] : List T_api_Fixup) x32.fixups_) fun v36 =>
  bind1 (ranges_Builder_List H31 (Ptr.at i8 0)) fun r38 =>
  some (H31, (T_emit_Result.mk v34 v36 r38), 0)))
theorem ok_emit_Code_Finish (H : Heap) {p0 : Ptr} {ra : T_emit_Result} {rb : Int} {Hr : Heap} (hF : emit_Code_Finish H p0 = some (Hr, ra, rb)) : evS X 7 [.one .top (Ptr.av p0)] H = some (.tup [.agg (m0_emit_Result ra), .one .top (.int .i64 rb)], Hr) := by
 let E3 : EN := (61, .one .top .junk)
 let E4 : EN := (2, vl 2 0)
 let B5 : EB := (2, [((.own 1), .sl 1 (List.map (eI .u32) ([] : List Int))), ((.own 1), .sl 4 (List.map e_api_Fixup ([] : List T_api_Fixup))), ((.own 1), .sl 2 (List.map e_api_Segment ([] : List T_api_Segment)))])
 let E8 : EN := (12, .agg [(.top, .junk), (.top, .junk), (.top, .junk)])
 let E9 : EN := (17, .agg [(.top, .junk)])
 let E28 : EN := (69, .agg [(.top, .junk), (.top, .junk), (.top, .junk)])
 refine yf Try.func7 false ⟨[(0, vp p0)], [], H⟩ ?_
 unfold emit_Code_Finish at hF
 refine ysg ⟨[(0, vp p0), E4], [B5], H⟩ ?_ (h := (by generalize p0 = qp0; cases qp0 <;> kernel_rfl))
 refine w_seq ?_
 refine w_seq ?_
 obtain ⟨i1, o2, h3, hF⟩ := pbnd_inv hF
 let E6 : EN := (13, vo i1 o2)
 let E14 : EN := (30, vo i1 o2)
 let E19 : EN := (39, vo i1 o2)
 let E23 : EN := (56, vo i1 o2)
 let E24 : EN := (62, vo i1 o2)
 let L29 : List EN := [(0, vo i1 o2), E4]
 let L32 : List EN := [E23, (57, vo i1 o2), (58, vo i1 o2)]
 let L33 : List EN := [E24, (63, vo i1 o2), (64, vo i1 (o2 + 1))]
 let L44 : List EN := L29 ++ [(12, .agg [((.own 1), .sl 1 (List.map (eI .u32) ([] : List Int))), ((.own 1), .sl 4 (List.map e_api_Fixup ([] : List T_api_Fixup))), ((.own 1), .sl 2 (List.map e_api_Segment ([] : List T_api_Segment)))])]
 let L49 : List EN := [E6, (14, vo i1 o2), (15, vo i1 (o2 + 7))]
 let L50 : List EN := L29 ++ [(7, vo i1 o2), (8, vo i1 o2), (9, vo i1 (o2 + 7))]
 obtain ⟨x4, V5, hF⟩ := bind1_inv hF
 replace V5 := hgetT_inv V5
 let E7 : EN := (16, vi x4.err_)
 refine w_regO ⟨L29 ++ [(11, vb (x4.err_ != 0))], [B5], H⟩ ?_ ?_
 refine yr 1 ⟨[(0, vp p0), E4, (7, vp p0)], [B5], H⟩ ?_ (h := (by generalize p0 = qp0; cases qp0 <;> kernel_rfl))
 refine o_eq (congrArg (fun q => (⟨[(0, vp q), E4, (7, vp q)], [B5], H⟩ : St)) h3) ?_
 refine yr 1 ⟨L29 ++ [(7, vo i1 o2), (8, vo i1 o2)], [B5], H⟩ ?_
 refine yr 1 ⟨L50, [B5], H⟩ ?_
 refine o_one ⟨L50 ++ [(10, vi x4.err_)], [B5], H⟩ (yd (X := X) (⟨L50, [B5], H⟩ : St) 37 V5 7 1 false (vi x4.err_) (some 10)) ?_
 refine yr 1 ⟨L50 ++ [(10, vi x4.err_), (11, vb (x4.err_ != 0))], [B5], H⟩ ?_
 exact ye
 rcases if_inv hF with ⟨h6, hF⟩ | ⟨h6, hF⟩
 refine yT h6 ⟨L29, [B5], H⟩ ?_
 refine w_seq ?_
 refine w_regD (.take 0 (.take 1 (.take 2 (.take 3 (.take 4 (.last 5 (.take 6 .done))))))) (by kernel_rfl) (⟨[E4, (3, vi x4.err_)], [B5], H⟩ : St) ?_ ?_
 refine ydk 4 ⟨L44 ++ L49, [B5], H⟩ ?_
 refine d_take ⟨L44 ++ L49 ++ [E7], [B5], H⟩ (yd (X := X) (⟨L44 ++ L49, [B5], H⟩ : St) 37 V5 7 1 false (vi x4.err_) (some 16)) ?_
 refine ydl ⟨L29 ++ [E8] ++ L49 ++ [E7], [B5], H⟩ ?_
 refine ydt ⟨L29 ++ [(3, vi x4.err_), E8] ++ L49 ++ [E7], [B5], H⟩ ?_
 exact yde
 refine w_ret ?_
 obtain ⟨e0, e1, e2⟩ := some3_inv hF
 subst e0
 subst e1
 subst e2
 exact yi (.tup [.agg [((.own 1), .sl 1 (List.map (eI .u32) ([] : List Int))), ((.own 1), .sl 4 (List.map e_api_Fixup ([] : List T_api_Fixup))), ((.own 1), .sl 2 (List.map e_api_Segment ([] : List T_api_Segment)))], vi x4.err_])
 refine yF h6 ⟨L29, [B5], H⟩ ?_
 refine w_skip ?_
 refine w_seq ?_
 obtain ⟨i8, h10, hF⟩ := bnd_inv hF
 let E2 : EN := (67, vo i8 0)
 let L30 : List EN := L29 ++ [(4, vo i8 0)]
 let L45 : List EN := L30 ++ [(19, vo i1 o2), (20, vo i1 o2), (21, vo i1 (o2 + 2))]
 obtain ⟨H7, h9, hF⟩ := bnd_inv hF
 refine w_regO ⟨L30, [B5], H7⟩ ?_ ?_
 refine yr 1 ⟨L29 ++ [(17, .agg [((.own 1), .sl 2 (List.map e_api_Segment ([] : List T_api_Segment)))])], [B5], H⟩ ?_
 refine o_one ⟨L29 ++ [E9, (18, vo H.length 0)], [B5], (H ++ [[((.own 1), .sl 2 (List.map e_api_Segment ([] : List T_api_Segment)))]])⟩ (by kernel_rfl) ?_
 refine o_eq (congr2 (fun q u => (⟨L29 ++ [E9, (18, vo q 0)], [B5], u⟩ : St)) h10 h9) ?_
 refine yr 1 ⟨L30 ++ [E9, (18, vo i8 0)], [B5], H7⟩ ?_
 exact ye
 refine w_seq ?_
 refine w_seq ?_
 obtain ⟨x11, V12, hF⟩ := bind1_inv hF
 replace V12 := hgetT_inv V12
 obtain ⟨r13, c14, hF⟩ := bind1_inv hF
 let E10 : EN := (22, .one (.own 1) (.sl 2 (List.map e_api_Segment r13)))
 let L31 : List EN := [E10, (23, vi (r13.length : Int))]
 refine w_regO ⟨L30 ++ L31 ++ [(24, vi 0)], [B5], H7⟩ ?_ ?_
 refine yr 2 ⟨L30 ++ [(19, vo i1 o2), (20, vo i1 o2)], [B5], H7⟩ ?_
 refine yr 1 ⟨L45, [B5], H7⟩ ?_
 refine o_one ⟨L45 ++ [E10], [B5], H7⟩ (yc (some 22) true false (⟨L45, [B5], H7⟩ : St) (ok_ranges_Builder_List H7 c14)) ?_
 refine o_one ⟨L45 ++ L31, [B5], H7⟩ (yl (⟨L45 ++ [E10], [B5], H7⟩ : St) r13 e_api_Segment (some 23)) ?_
 refine yr 1 ⟨L45 ++ L31 ++ [(24, vi 0)], [B5], H7⟩ ?_
 exact ye
 refine w_block ?_
 obtain ⟨r29, hL30, hF⟩ := bind1_inv hF
 refine w_loop (fun (x : (Int × Heap)) => (⟨L30 ++ L31 ++ [(24, vi x.1)], [B5], x.2⟩ : St)) (fun (y : (Heap)) => ((.exit 0, (⟨L30, [B5], y⟩ : St)) : Ex × St)) hL30 (by kernel_rfl) ?_ ?_
 rintro ⟨a15, H16⟩ o hF
 replace hF : emit_Code_Finish_L1 r13 i1 o2 i8 a15 H16 = some o := hF
 let L34 : List EN := L30 ++ [(6, vl 6 0)] ++ L31 ++ [(24, vi a15)]
 let L38 : List EN := L34 ++ [E19, (40, vo i1 o2), (41, vo i1 (o2 + 3))]
 let L48 : List EN := L30 ++ L31 ++ [(24, vi a15)]
 unfold emit_Code_Finish_L1 at hF
 refine ysg ⟨L48 ++ [(25, vb (decide (a15 < (r13.length : Int))))], [B5], H16⟩ ?_
 refine w_seq ?_
 rcases if_inv hF with ⟨h17, hF⟩ | ⟨h17, hF⟩
 refine yT h17 ⟨L48, [B5], H16⟩ ?_
 refine w_skip ?_
 refine w_seq ?_
 refine w_block ?_
 refine w_seq ?_
 obtain ⟨x18, h19, hF⟩ := bind1_inv hF
 let B11 : EB := (6, [(.top, .int .i64 x18.Start_), (.top, .int .i64 x18.Pad_)])
 let E12 : EN := (26, .one .top (.rd .bl (.own 0) [.int .i64 x18.Start_, .int .i64 x18.Pad_] 0))
 let L41 : List EN := L34 ++ [(28, vl 6 0), (29, vi x18.Start_)]
 let L47 : List EN := L41 ++ [E14, (31, vo i1 o2), (32, vo i1 o2)]
 refine w_regO ⟨L34, [B5, B11], H16⟩ ?_ ?_
 refine o_one ⟨L48 ++ [E12], [B5], H16⟩ (st_ix (X := X) (⟨L48, [B5], H16⟩ : St) 34 65 2 h19 e_api_Segment (.own 1) (some 26) (by kernel_rfl) (by kernel_rfl) (by kernel_rfl) (by kernel_rfl)) ?_
 refine yr 3 ⟨L34 ++ [E12, (27, .agg [(.top, .int .i64 x18.Start_), (.top, .int .i64 x18.Pad_)])], [B5, B11], H16⟩ ?_
 exact ye
 refine w_seq ?_
 refine w_seq ?_
 obtain ⟨x20, V21, hF⟩ := bind1_inv hF
 replace V21 := hgetT_inv V21
 let E13 : EN := (35, vb (decide (x18.Start_ ≥ (x20.words_.length : Int))))
 let E15 : EN := (33, .one .bh (.sl 1 (List.map (eI .u32) x20.words_)))
 let E16 : EN := (34, vi (x20.words_.length : Int))
 let E20 : EN := (42, .one .bh (.sl 1 (List.map (eI .i64) x20.pads_)))
 let L46 : List EN := L38 ++ [E20, (43, vl 6 1), (44, vi x18.Pad_)]
 refine w_regD (.take 0 (.take 1 (.take 2 (.take 3 (.take 4 (.take 5 (.take 6 (.take 7 .done)))))))) (by kernel_rfl) (⟨L34 ++ [E13], [B5, B11], H16⟩ : St) ?_ ?_
 refine ydk 5 ⟨L47, [B5, B11], H16⟩ ?_
 refine d_take ⟨L47 ++ [E15], [B5, B11], H16⟩ (yd (X := X) (⟨L47, [B5, B11], H16⟩ : St) 33 V21 0 1 false (.one .bh (.sl 1 (List.map (eI .u32) x20.words_))) (some 33)) ?_
 refine d_take ⟨L47 ++ [E15, E16], [B5, B11], H16⟩ (yl (⟨L47 ++ [E15], [B5, B11], H16⟩ : St) x20.words_ (eI .u32) (some 34)) ?_
 refine ydt ⟨L47 ++ [E15, E16, E13], [B5, B11], H16⟩ ?_
 exact yde
 rcases if_inv hF with ⟨h22, hF⟩ | ⟨h22, hF⟩
 refine yT h22 ⟨L30, [B5], H16⟩ ?_
 refine w_exit ?_
 refine e_out rfl ?_
 cases hF
 exact ⟨_, rfl, (by kernel_rfl)⟩
 refine yF h22 ⟨L34, [B5, B11], H16⟩ ?_
 refine w_skip ?_
 refine w_seq ?_
 refine ysg ⟨L34 ++ [(38, vb (x18.Pad_ != (-1)))], [B5, B11], H16⟩ ?_
 refine w_join (α := (T_api_Segment)) (fun x => (⟨L34, [B5, (6, [(.top, .int .i64 x.Start_), (.top, .int .i64 x.Pad_)])], H16⟩ : St)) (fun x => emit_Code_Finish_j2 H16 i8 a15 x = some o) ?_ ?_
 rintro j23 hF
 replace hF : emit_Code_Finish_j2 H16 i8 a15 j23 = some o := hF
 let B17 : EB := (6, [(.top, .int .i64 j23.Start_), (.top, .int .i64 j23.Pad_)])
 let L54 : List EN := L34 ++ [(48, vo i8 0), (49, vl 6 0), (50, vi j23.Start_), (51, vl 6 1), (52, vi j23.Pad_)]
 unfold emit_Code_Finish_j2 at hF
 obtain ⟨H25, c24, hF⟩ := bind1_inv hF
 refine w_regO ⟨L48, [B5], H25⟩ ?_ ?_
 refine yr 5 ⟨L54, [B5, B17], H16⟩ ?_
 refine o_one ⟨L54 ++ [(53, vN)], [B5, B17], H25⟩ (yc (some 53) false false (⟨L54, [B5, B17], H16⟩ : St) (ok_ranges_Builder_Mark H16 c24)) ?_
 exact ye
 refine yg ⟨L30 ++ L31 ++ [(24, vi (IntKind.wrap .i64 (a15 + 1)))], [B5], H25⟩ ?_
 cases hF
 exact ⟨_, rfl, (by kernel_rfl)⟩
 rcases if_inv hF with ⟨h26, hF⟩ | ⟨h26, hF⟩
 refine yT h26 ⟨L34, [B5, B11], H16⟩ ?_
 obtain ⟨x27, h28, hF⟩ := bind1_inv hF
 let B18 : EB := (6, [(.top, .int .i64 x18.Start_), (.top, .int .i64 x27)])
 let E21 : EN := (45, .one .top (.rd .bh .bh [.int .i64 x27] 0))
 refine w_regD (.take 0 (.take 1 (.take 2 (.take 3 (.take 4 (.last 5 (.take 6 (.take 7 (.take 8 (.last 9 .done)))))))))) (by kernel_rfl) (⟨L34, [B5, B18], H16⟩ : St) ?_ ?_
 refine ydk 3 ⟨L38, [B5, B11], H16⟩ ?_
 refine d_take ⟨L38 ++ [E20], [B5, B11], H16⟩ (yd (X := X) (⟨L38, [B5, B11], H16⟩ : St) 26 V21 3 1 false (.one .bh (.sl 1 (List.map (eI .i64) x20.pads_))) (some 42)) ?_
 refine ydt ⟨L38 ++ [E20, (43, vl 6 1)], [B5, B11], H16⟩ ?_
 refine ydl ⟨L46, [B5, B11], H16⟩ ?_
 refine d_take ⟨L46 ++ [E21], [B5, B11], H16⟩ (st_ix (X := X) (⟨L46, [B5, B11], H16⟩ : St) 26 3 1 h28 (eI .i64) .bh (some 45) (by kernel_rfl) (by kernel_rfl) (by kernel_rfl) (by kernel_rfl)) ?_
 refine ydk 2 ⟨L46 ++ [E21, (46, vi x27), (47, vl 6 1)], [B5, B11], H16⟩ ?_
 refine ydl ⟨L46 ++ [E21, (46, vi x27), (47, vl 6 1)], [B5, B18], H16⟩ ?_
 exact yde
 exact ⟨(T_api_Segment.mk x18.Start_ x27), hF, (by kernel_rfl)⟩
 refine yF h26 ⟨L34, [B5, B11], H16⟩ ?_
 refine w_skip ?_
 exact ⟨x18, hF, (by kernel_rfl)⟩
 refine yF h17 ⟨L30, [B5], H16⟩ ?_
 refine w_exit ?_
 cases hF
 exact ⟨_, rfl, (by kernel_rfl)⟩
 obtain ⟨H31, hy⟩ : ∃ y, y = r29 := ⟨_, rfl⟩
 subst hy
 refine w_oe (i := 0) (s := (⟨L30, [B5], H31⟩ : St)) (by kernel_rfl) ?_
 refine e_here ?_
 refine w_seq ?_
 obtain ⟨x32, V33, hF⟩ := bind1_inv hF
 replace V33 := hgetT_inv V33
 let E1 : EN := (59, .one .bh (.sl 1 (List.map (eI .u32) x32.words_)))
 let E25 : EN := (65, .one .bh (.sl 4 (List.map e_api_Fixup x32.fixups_)))
 let L35 : List EN := L30 ++ [(55, .one .top .junk)] ++ L32 ++ [E1]
 let L37 : List EN := L33 ++ [E25, E2]
 let L39 : List EN := [(60, .one .top .junk), E3] ++ L33 ++ [E25, (66, .one .top .junk), E2, (68, .one .top .junk)]
 let L42 : List EN := [(61, .one (.own 1) (.sl 4 (List.map e_api_Fixup ([] : List T_api_Fixup))))] ++ L37
 let L43 : List EN := L30 ++ L32 ++ [E1]
 let L51 : List EN := L29 ++ [(3, vi 0), (4, vo i8 0), (55, .one .top .junk)] ++ L32 ++ [E1] ++ L39 ++ [E28]
 let L52 : List EN := L30 ++ [(55, .one (.own 1) (.sl 1 (List.map (eI .u32) ([] : List Int))))] ++ L32 ++ [E1]
 obtain ⟨v34, h35, hF⟩ := bind1_inv hF
 let L36 : List EN := L35 ++ [(60, .one (.own 1) (.sl 1 (List.map (eI .u32) v34)))]
 let L53 : List EN := L36 ++ [E3] ++ L33 ++ [E25, E2]
 obtain ⟨v36, h37, hF⟩ := bind1_inv hF
 let L40 : List EN := L36 ++ [E3] ++ L33 ++ [E25, (66, .one (.own 1) (.sl 4 (List.map e_api_Fixup v36))), E2]
 obtain ⟨r38, c39, hF⟩ := bind1_inv hF
 let B22 : EB := (2, [((.own 1), .sl 1 (List.map (eI .u32) v34)), ((.own 1), .sl 4 (List.map e_api_Fixup v36)), ((.own 1), .sl 2 (List.map e_api_Segment r38))])
 let E26 : EN := (68, .one (.own 1) (.sl 2 (List.map e_api_Segment r38)))
 let E27 : EN := (69, .agg [((.own 1), .sl 1 (List.map (eI .u32) v34)), ((.own 1), .sl 4 (List.map e_api_Fixup v36)), ((.own 1), .sl 2 (List.map e_api_Segment r38))])
 let K55 : Sch := .last 5 (.last 11 (.last 13 (.take 14 (.last 15 (.take 16 .done)))))
 refine w_regD (.take 1 (.take 2 (.take 3 (.take 4 (.take 7 (.take 8 (.take 9 (.take 10 (.take 12 (.alt 0 (.alt 5 (.last 6 (.last 11 (.last 13 (.take 14 (.last 15 (.take 16 .done)))))) (.last 6 K55)) (.last 6 (.last 0 K55)))))))))))) (by kernel_rfl) (⟨[E4, (3, vi 0)], [B22], H31⟩ : St) ?_ ?_
 refine ydk 3 ⟨L30 ++ L32, [B5], H31⟩ ?_
 refine d_take ⟨L43, [B5], H31⟩ (yd (X := X) (⟨L30 ++ L32, [B5], H31⟩ : St) 33 V33 0 1 false (.one .bh (.sl 1 (List.map (eI .u32) x32.words_))) (some 59)) ?_
 refine ydk 3 ⟨L43 ++ L33, [B5], H31⟩ ?_
 refine d_take ⟨L43 ++ L33 ++ [E25], [B5], H31⟩ (yd (X := X) (⟨L43 ++ L33, [B5], H31⟩ : St) 27 V33 1 1 false (.one .bh (.sl 4 (List.map e_api_Fixup x32.fixups_))) (some 65)) ?_
 refine ydt ⟨L43 ++ L37, [B5], H31⟩ ?_
 refine q_in (⟨L51, [B22], H31⟩ : St) ?_ ?_
 refine q_alt ⟨L52 ++ L37, [B5], H31⟩ (by kernel_rfl) ?_ ?_
 refine q_alt ⟨L36 ++ L37, [B5], H31⟩ (st_app (X := X) (⟨L35 ++ L37, [B5], H31⟩ : St) 4 h35 33 33 48 1 0 [(.top, .int .u32 0)] .bh (eI .u32) 9 (some 60) (by kernel_rfl) (by kernel_rfl) (by kernel_rfl) (by kernel_rfl) (by kernel_rfl) (by kernel_rfl) (by kernel_rfl) (by kernel_rfl) (depth_flat rfl fun _ => rfl) (fun _ => rfl) (by kernel_rfl)) ?_ ?_
 refine yql ⟨L36 ++ L42, [B5], H31⟩ ?_
 refine q_last ⟨L40, [B5], H31⟩ (st_app (X := X) (⟨L53, [B5], H31⟩ : St) 32 h37 27 27 43 4 0 (List.replicate 4 (.top, .int .i64 0)) .bh e_api_Fixup 9 (some 66) (by kernel_rfl) (by kernel_rfl) (by kernel_rfl) (by kernel_rfl) (by kernel_rfl) (by kernel_rfl) (by kernel_rfl) (by kernel_rfl) (depth_flat rfl fun _ => rfl) (fun _ => rfl) (by kernel_rfl)) ?_
 refine q_last ⟨L40 ++ [E26], [B5], H31⟩ (yc (some 68) true false (⟨L40, [B5], H31⟩ : St) (ok_ranges_Builder_List H31 c39)) ?_
 refine yqt ⟨L35 ++ L39 ++ [E27], [B5], H31⟩ ?_
 refine yql ⟨L35 ++ L39 ++ [E28], [B22], H31⟩ ?_
 refine yqt ⟨L51, [B22], H31⟩ ?_
 exact yqe
 refine yql ⟨L52 ++ L42, [B5], H31⟩ ?_
 refine q_last ⟨L36 ++ L42, [B5], H31⟩ (st_app (X := X) (⟨L35 ++ L42, [B5], H31⟩ : St) 4 h35 33 33 48 1 0 [(.top, .int .u32 0)] .bh (eI .u32) 9 (some 60) (by kernel_rfl) (by kernel_rfl) (by kernel_rfl) (by kernel_rfl) (by kernel_rfl) (by kernel_rfl) (by kernel_rfl) (by kernel_rfl) (depth_flat rfl fun _ => rfl) (fun _ => rfl) (by kernel_rfl)) ?_
 refine q_last ⟨L40, [B5], H31⟩ (st_app (X := X) (⟨L53, [B5], H31⟩ : St) 32 h37 27 27 43 4 0 (List.replicate 4 (.top, .int .i64 0)) .bh e_api_Fixup 9 (some 66) (by kernel_rfl) (by kernel_rfl) (by kernel_rfl) (by kernel_rfl) (by kernel_rfl) (by kernel_rfl) (by kernel_rfl) (by kernel_rfl) (depth_flat rfl fun _ => rfl) (fun _ => rfl) (by kernel_rfl)) ?_
 refine q_last ⟨L40 ++ [E26], [B5], H31⟩ (yc (some 68) true false (⟨L40, [B5], H31⟩ : St) (ok_ranges_Builder_List H31 c39)) ?_
 refine yqt ⟨L35 ++ L39 ++ [E27], [B5], H31⟩ ?_
 refine yql ⟨L35 ++ L39 ++ [E28], [B22], H31⟩ ?_
 refine yqt ⟨L51, [B22], H31⟩ ?_
 exact yqe
 refine yql ⟨L43 ++ L42, [B5], H31⟩ ?_
 refine yql ⟨L52 ++ L42, [B5], H31⟩ ?_
 refine q_last ⟨L36 ++ L42, [B5], H31⟩ (st_app (X := X) (⟨L35 ++ L42, [B5], H31⟩ : St) 4 h35 33 33 48 1 0 [(.top, .int .u32 0)] .bh (eI .u32) 9 (some 60) (by kernel_rfl) (by kernel_rfl) (by kernel_rfl) (by kernel_rfl) (by kernel_rfl) (by kernel_rfl) (by kernel_rfl) (by kernel_rfl) (depth_flat rfl fun _ => rfl) (fun _ => rfl) (by kernel_rfl)) ?_
 refine q_last ⟨L40, [B5], H31⟩ (st_app (X := X) (⟨L53, [B5], H31⟩ : St) 32 h37 27 27 43 4 0 (List.replicate 4 (.top, .int .i64 0)) .bh e_api_Fixup 9 (some 66) (by kernel_rfl) (by kernel_rfl) (by kernel_rfl) (by kernel_rfl) (by kernel_rfl) (by kernel_rfl) (by kernel_rfl) (by kernel_rfl) (depth_flat rfl fun _ => rfl) (fun _ => rfl) (by kernel_rfl)) ?_
 refine q_last ⟨L40 ++ [E26], [B5], H31⟩ (yc (some 68) true false (⟨L40, [B5], H31⟩ : St) (ok_ranges_Builder_List H31 c39)) ?_
 refine yqt ⟨L35 ++ L39 ++ [E27], [B5], H31⟩ ?_
 refine yql ⟨L35 ++ L39 ++ [E28], [B22], H31⟩ ?_
 refine yqt ⟨L51, [B22], H31⟩ ?_
 exact yqe
 kernel_rfl
 refine w_ret ?_
 obtain ⟨e0, e1, e2⟩ := some3_inv hF
 subst e0
 subst e1
 subst e2
 exact yi (.tup [.agg [((.own 1), .sl 1 (List.map (eI .u32) v34)), ((.own 1), .sl 4 (List.map e_api_Fixup v36)), ((.own 1), .sl 2 (List.map e_api_Segment r38))], vi 0])
noncomputable def ref01_Words_L1 (p0 : (List Int)) (p1 : (List Int)) (a2 : Int) : Option ((Int) ⊕ (Unit ⊕ Unit)) :=
  if (decide (a2 < (p0.length : Int))) = true then (bind1 (gi p0 a2) fun x4 =>
  bind1 (gi p1 a2) fun x6 =>
  if (x4 != x6) = true then (some (Sum.inr (Sum.inr ())))
  else (some (Sum.inl (IntKind.wrap .i64 (a2 + 1)))))
  else (some (Sum.inr (Sum.inl ())))
noncomputable def ref01_Words  (p0 : (List Int)) (p1 : (List Int)) : Option (Bool) :=
  if ((p0.length : Int) != (p1.length : Int)) = true then (some false)
  else (bind1 (loopO (fun (x : (Int)) => ref01_Words_L1 p0 p1 x) 0) (sum2 (fun (_ : Unit) =>
  some true) (fun (_ : Unit) =>
  some false)))
theorem ok_ref01_Words (H : Heap) {p0 : (List Int)} {p1 : (List Int)} {ra : Bool} (hF : ref01_Words p0 p1 = some ra) : evS X 8 [.one .bl (.sl 1 (List.map (eI .u32) p0)), .one (.own 1) (.sl 1 (List.map (eI .u32) p1))] H = some (.one .top (.bool ra), H) := by
 let E1 : EN := (10, vb ((p0.length : Int) != (p1.length : Int)))
 let E2 : EN := (6, .one .bl (.sl 1 (List.map (eI .u32) p0)))
 let E3 : EN := (7, vi (p0.length : Int))
 let E4 : EN := (9, vi (p1.length : Int))
 let E6 : EN := (13, vi (p0.length : Int))
 let E7 : EN := (17, .one .bl (.sl 1 (List.map (eI .u32) p0)))
 let E9 : EN := (21, .one .bl (.sl 1 (List.map (eI .u32) p1)))
 let L11 : List EN := [(0, .one .bl (.sl 1 (List.map (eI .u32) p0))), (1, .one (.own 1) (.sl 1 (List.map (eI .u32) p1)))]
 let L16 : List EN := L11 ++ [E2, E3, (8, .one .bl (.sl 1 (List.map (eI .u32) p1)))]
 let S17 : St := ⟨[], [], H⟩
 let S18 : St := ⟨[(4, vF)], [], H⟩
 refine yf Try.func8 true ⟨L11, [], H⟩ ?_
 unfold ref01_Words at hF
 refine ysg ⟨L11, [], H⟩ ?_
 refine w_seq ?_
 refine yso ⟨L11 ++ [E1], [], H⟩ ?_ ?_
 refine yr 1 ⟨L11 ++ [E2], [], H⟩ ?_
 refine o_one ⟨L11 ++ [E2, E3], [], H⟩ (yl (⟨L11 ++ [E2], [], H⟩ : St) p0 (eI .u32) (some 7)) ?_
 refine yr 1 ⟨L16, [], H⟩ ?_
 refine o_one ⟨L16 ++ [E4], [], H⟩ (yl (⟨L16, [], H⟩ : St) p1 (eI .u32) (some 9)) ?_
 refine yr 1 ⟨L16 ++ [E4, E1], [], H⟩ ?_
 exact ye
 rcases if_inv hF with ⟨h1, hF⟩ | ⟨h1, hF⟩
 refine yT h1 S17 ?_
 refine ysg S18 ?_
 refine w_ret ?_
 obtain e0 := some1_inv hF
 subst e0
 exact yp (vF)
 refine yF h1 ⟨L11, [], H⟩ ?_
 refine w_skip ?_
 refine w_seq ?_
 refine ysg ⟨L11 ++ [(5, vi 0)], [], H⟩ ?_
 refine w_block ?_
 obtain ⟨r9, hL10, hF⟩ := bind1_inv hF
 refine w_loop (fun (x : (Int)) => (⟨L11 ++ [(5, vi x)], [], H⟩ : St)) (Sum.elim (fun (y : Unit) => ((.exit 0, S17) : Ex × St)) (fun (y : Unit) => ((.ret, S18) : Ex × St))) hL10 (by kernel_rfl) ?_ ?_
 rintro a2 o hF
 replace hF : ref01_Words_L1 p0 p1 a2 = some o := hF
 let E5 : EN := (14, vb (decide (a2 < (p0.length : Int))))
 let L12 : List EN := L11 ++ [(5, vi a2)]
 let L13 : List EN := L12 ++ [E7, (18, vi a2)]
 let L15 : List EN := L12 ++ [(11, vi a2), (12, .one .bl (.sl 1 (List.map (eI .u32) p0)))]
 unfold ref01_Words_L1 at hF
 refine w_seq ?_
 refine yso ⟨L12 ++ [E5], [], H⟩ ?_ ?_
 refine yr 2 ⟨L15, [], H⟩ ?_
 refine o_one ⟨L15 ++ [E6], [], H⟩ (yl (⟨L15, [], H⟩ : St) p0 (eI .u32) (some 13)) ?_
 refine yr 1 ⟨L15 ++ [E6, E5], [], H⟩ ?_
 exact ye
 rcases if_inv hF with ⟨h3, hF⟩ | ⟨h3, hF⟩
 refine yT h3 ⟨L12, [], H⟩ ?_
 refine w_skip ?_
 refine w_seq ?_
 refine w_block ?_
 refine w_seq ?_
 obtain ⟨x4, h5, hF⟩ := bind1_inv hF
 let E8 : EN := (19, .one .top (.rd .bl .bl [.int .u32 x4] 0))
 let L14 : List EN := L13 ++ [E8, (20, vu x4), E9, (22, vi a2)]
 obtain ⟨x6, h7, hF⟩ := bind1_inv hF
 let E10 : EN := (23, .one .top (.rd .bl .bl [.int .u32 x6] 0))
 refine w_regD (.take 0 (.take 1 (.take 2 (.take 3 (.take 4 (.take 5 (.take 6 (.take 7 (.take 8 .done))))))))) (by kernel_rfl) (⟨L12 ++ [(25, vb (x4 != x6))], [], H⟩ : St) ?_ ?_
 refine ydk 2 ⟨L13, [], H⟩ ?_
 refine d_take ⟨L13 ++ [E8], [], H⟩ (st_ix (X := X) (⟨L13, [], H⟩ : St) 33 48 1 h5 (eI .u32) .bl (some 19) (by kernel_rfl) (by kernel_rfl) (by kernel_rfl) (by kernel_rfl)) ?_
 refine ydk 3 ⟨L14, [], H⟩ ?_
 refine d_take ⟨L14 ++ [E10], [], H⟩ (st_ix (X := X) (⟨L14, [], H⟩ : St) 33 48 1 h7 (eI .u32) .bl (some 23) (by kernel_rfl) (by kernel_rfl) (by kernel_rfl) (by kernel_rfl)) ?_
 refine ydk 2 ⟨L14 ++ [E10, (24, vu x6), (25, vb (x4 != x6))], [], H⟩ ?_
 exact yde
 rcases if_inv hF with ⟨h8, hF⟩ | ⟨h8, hF⟩
 refine yT h8 S17 ?_
 refine ysg S18 ?_
 refine w_ret ?_
 cases hF
 exact ⟨_, rfl, (by kernel_rfl)⟩
 refine yF h8 ⟨L12, [], H⟩ ?_
 refine w_skip ?_
 refine yg ⟨L11 ++ [(5, vi (IntKind.wrap .i64 (a2 + 1)))], [], H⟩ ?_
 cases hF
 exact ⟨_, rfl, (by kernel_rfl)⟩
 refine yF h3 S17 ?_
 refine w_exit ?_
 cases hF
 exact ⟨_, rfl, (by kernel_rfl)⟩
 rcases sum2_inv hF with ⟨r9', rfl, hF⟩ | ⟨r9', rfl, hF⟩
 refine w_oe (i := 0) (s := S17) (by kernel_rfl) ?_
 refine e_here ?_
 refine ysg ⟨[(4, vT)], [], H⟩ ?_
 refine w_ret ?_
 obtain e0 := some1_inv hF
 subst e0
 exact yp (vT)
 refine w_or (s := S18) (by kernel_rfl) ?_
 obtain e0 := some1_inv hF
 subst e0
 exact yp (vF)
noncomputable def law17_awake (H : Heap) : Option (Heap × Bool) :=
  bind2 (emit_New H) fun H3 r1 =>
  if r1.isNil = true then (some (H3, false))
  else (bind2 (emit_Code_Jump H3 r1 22 0) fun H7 r5 =>
  bind2 (emit_Code_Reg H7 r1 1 0) fun H10 r8 =>
  bind1 (emit_Code_Land H10 r1 r5) fun H12 =>
  bind2 (emit_Code_Reg H12 r1 1 0) fun H15 r13 =>
  bind3 (emit_Code_Finish H15 r1) fun H19 r16 r17 =>
  bind1 (if (r17 == 0) = true then (bind1 (ref01_Words r16.Words_ ([369098753, 16777216, 16777216] : List Int)) fun r21 =>
  some r21) else (some false)) fun w23 =>
  some (H19, w23))
theorem ok_law17_awake (H : Heap) {ra : Bool} {Hr : Heap} (hF : law17_awake H = some (Hr, ra)) : evS X 4 [] H = some (.one .top (.bool ra), Hr) := by
 let E6 : EN := (27, .one .top .junk)
 let B7 : EB := (3, [(.top, .junk), (.top, .junk), (.top, .junk)])
 let S11 : St := ⟨[], [], H⟩
 refine yf Try.func4 false S11 ?_
 unfold law17_awake at hF
 refine ysg S11 ?_
 refine w_seq ?_
 obtain ⟨H3, r1, c2, hF⟩ := bind2_inv hF
 let E1 : Ptr → EN := fun z0 => (1, vp z0)
 let E3 : Ptr → EN := fun z0 => (18, vp z0)
 let S12 : Ptr → St := fun z0 => ⟨[(E1 z0), (6, vp z0)], [], H3⟩
 let S13 : Ptr → St := fun z0 => ⟨[(E1 z0), (8, vp z0)], [], H3⟩
 refine w_regO ⟨[(E1 r1)], [], H3⟩ ?_ ?_
 refine o_one ⟨[(5, vp r1)], [], H3⟩ (yc (some 5) false false S11 (ok_emit_New H c2) (hr := (by generalize r1 = qp0; cases qp0 <;> kernel_rfl)) (hs := (by generalize r1 = qp0; cases qp0 <;> kernel_rfl))) ?_
 refine yr 1 ⟨[(E1 r1), (5, vp r1)], [], H3⟩ ?_ (h := (by generalize r1 = qp0; cases qp0 <;> kernel_rfl))
 exact ye
 refine w_seq ?_
 refine yso ⟨[(E1 r1), (7, vb r1.isNil)], [], H3⟩ ?_ ?_
 refine yr 1 (S12 r1) ?_ (h := (by generalize r1 = qp0; cases qp0 <;> kernel_rfl))
 refine o_one ⟨[(E1 r1), (6, vp r1), (7, vb r1.isNil)], [], H3⟩ (st_bin (S12 r1) (nil_eql (P := X.P) (ty := 24) (x := (.tmp 6)) (y := (.const (.pointer none))) (m := .top) (m' := .top) r1 (by generalize r1 = qp0; cases qp0 <;> kernel_rfl) (by generalize r1 = qp0; cases qp0 <;> kernel_rfl)) rfl (some 7) (by generalize r1 = qp0; cases qp0 <;> kernel_rfl) (by generalize r1 = qp0; cases qp0 <;> kernel_rfl)) ?_
 exact ye
 rcases if_inv hF with ⟨h4, hF⟩ | ⟨h4, hF⟩
 refine yT h4 ⟨[], [], H3⟩ ?_
 refine ysg ⟨[(0, vF)], [], H3⟩ ?_
 refine w_ret ?_
 obtain ⟨e0, e1⟩ := some2_inv hF
 subst e0
 subst e1
 exact yi (vF)
 refine yF h4 ⟨[(E1 r1)], [], H3⟩ ?_
 refine w_skip ?_
 refine w_seq ?_
 obtain ⟨H7, r5, c6, hF⟩ := bind2_inv hF
 let L8 : Ptr → List EN := fun z0 => [(E1 z0), (2, vi r5)]
 refine w_regO ⟨(L8 r1), [], H7⟩ ?_ ?_
 refine yr 1 (S13 r1) ?_ (h := (by generalize r1 = qp0; cases qp0 <;> kernel_rfl))
 refine o_one ⟨[(E1 r1), (8, vp r1), (9, vi r5)], [], H7⟩ (yc (some 9) false false (S13 r1) (ok_emit_Code_Jump H3 c6) (hr := (by generalize r1 = qp0; cases qp0 <;> kernel_rfl)) (hs := (by generalize r1 = qp0; cases qp0 <;> kernel_rfl))) ?_
 refine yr 1 ⟨(L8 r1) ++ [(8, vp r1), (9, vi r5)], [], H7⟩ ?_ (h := (by generalize r1 = qp0; cases qp0 <;> kernel_rfl))
 exact ye
 refine w_seq ?_
 obtain ⟨H10, r8, c9, hF⟩ := bind2_inv hF
 refine w_regO ⟨(L8 r1), [], H10⟩ ?_ ?_
 refine yr 1 ⟨(L8 r1) ++ [(10, vp r1)], [], H7⟩ ?_ (h := (by generalize r1 = qp0; cases qp0 <;> kernel_rfl))
 refine o_one ⟨(L8 r1) ++ [(10, vp r1), (11, vi r8)], [], H10⟩ (yc (some 11) false false (⟨(L8 r1) ++ [(10, vp r1)], [], H7⟩ : St) (ok_emit_Code_Reg H7 c9) (hr := (by generalize r1 = qp0; cases qp0 <;> kernel_rfl)) (hs := (by generalize r1 = qp0; cases qp0 <;> kernel_rfl))) ?_
 exact ye
 refine w_seq ?_
 obtain ⟨H12, c11, hF⟩ := bind1_inv hF
 let S14 : Ptr → St := fun z0 => ⟨[(E1 z0), (15, vp z0)], [], H12⟩
 refine w_regO ⟨[(E1 r1)], [], H12⟩ ?_ ?_
 refine yr 2 ⟨(L8 r1) ++ [(12, vp r1), (13, vi r5)], [], H10⟩ ?_ (h := (by generalize r1 = qp0; cases qp0 <;> kernel_rfl))
 refine o_one ⟨(L8 r1) ++ [(12, vp r1), (13, vi r5), (14, vN)], [], H12⟩ (yc (some 14) false false (⟨(L8 r1) ++ [(12, vp r1), (13, vi r5)], [], H10⟩ : St) (ok_emit_Code_Land H10 c11) (hr := (by generalize r1 = qp0; cases qp0 <;> kernel_rfl)) (hs := (by generalize r1 = qp0; cases qp0 <;> kernel_rfl))) ?_
 exact ye
 refine w_seq ?_
 obtain ⟨H15, r13, c14, hF⟩ := bind2_inv hF
 let S15 : Ptr → St := fun z0 => ⟨[(E1 z0), (E3 z0)], [], H15⟩
 refine w_regO ⟨[(E1 r1)], [], H15⟩ ?_ ?_
 refine yr 1 (S14 r1) ?_ (h := (by generalize r1 = qp0; cases qp0 <;> kernel_rfl))
 refine o_one ⟨[(E1 r1), (15, vp r1), (16, vi r13)], [], H15⟩ (yc (some 16) false false (S14 r1) (ok_emit_Code_Reg H12 c14) (hr := (by generalize r1 = qp0; cases qp0 <;> kernel_rfl)) (hs := (by generalize r1 = qp0; cases qp0 <;> kernel_rfl))) ?_
 exact ye
 refine w_seq ?_
 obtain ⟨H19, r16, r17, c18, hF⟩ := bind3_inv hF
 let B2 : EB := (3, (m1_emit_Result r16))
 let E4 : EN := (19, .tup [.agg (m0_emit_Result r16), vi r17])
 let E5 : EN := (26, .one .bl (.sl 1 (List.map (eI .u32) r16.Words_)))
 let L9 : List EN := [(3, vl 3 0), (4, vi r17), (22, vi r17)]
 let L10 : List EN := L9 ++ [(23, vT), (24, vT), (25, vl 3 0)]
 refine w_regO ⟨[(3, vl 3 0), (4, vi r17)], [B2], H19⟩ ?_ ?_
 refine yr 1 (S15 r1) ?_ (h := (by generalize r1 = qp0; cases qp0 <;> kernel_rfl))
 refine o_one ⟨[(E1 r1), (E3 r1), E4], [], H19⟩ (yc (some 19) false false (S15 r1) (ok_emit_Code_Finish H15 c18) (hr := (by generalize r1 = qp0; cases qp0 <;> kernel_rfl)) (hs := (by generalize r1 = qp0; cases qp0 <;> kernel_rfl))) ?_
 refine yr 6 ⟨[(E1 r1), (3, vl 3 0), (4, vi r17), (17, .tup [.agg (m1_emit_Result r16), vi r17]), (E3 r1), E4, (20, .agg (m1_emit_Result r16)), (21, vi r17)], [B2], H19⟩ ?_ (h := (by generalize r1 = qp0; cases qp0 <;> kernel_rfl))
 exact ye
 refine w_seq ?_
 obtain ⟨w23, hB24, hF⟩ := bind1_inv hF
 refine w_regO ⟨[(0, vb w23)], [], H19⟩ ?_ ?_
 refine yr 3 ⟨L9 ++ [(23, vb (r17 == 0)), (24, vb (r17 == 0))], [B2], H19⟩ ?_
 rcases if_inv hB24 with ⟨h20, hB24⟩ | ⟨h20, hB24⟩
 refine o_eq (congrArg (fun q => (⟨L9 ++ [(23, vb q), (24, vb q)], [B2], H19⟩ : St)) h20) ?_
 refine yr 3 ⟨L10 ++ [E5, (27, .one (.own 1) (.sl 1 (List.map (eI .u32) ([369098753, 16777216, 16777216] : List Int))))], [B2], H19⟩ ?_
 obtain ⟨r21, c22, hB24⟩ := bind1_inv hB24
 refine o_one ⟨L10 ++ [(26, .one .top .junk), E6, (28, vb r21)], [B7], H19⟩ (yc (some 28) true true (⟨L10 ++ [E5, E6], [B2], H19⟩ : St) (ok_ref01_Words H19 c22)) ?_
 refine yr 2 ⟨[(0, vb r21)] ++ L10 ++ [(26, .one .top .junk), E6, (28, vb r21), (29, vb r21)], [B7], H19⟩ ?_
 cases hB24
 exact ye
 refine o_eq (congrArg (fun q => (⟨L9 ++ [(23, vb q), (24, vb q)], [B2], H19⟩ : St)) h20) ?_
 refine yr 6 ⟨[(0, vF)] ++ L9 ++ [(23, vF), (24, vF), (25, vN), (26, vN), (27, vN), (28, vN), (29, vF)], [B2], H19⟩ ?_
 cases hB24
 exact ye
 refine w_ret ?_
 obtain ⟨e0, e1⟩ := some2_inv hF
 subst e0
 subst e1
 exact yi (vb w23)
noncomputable def law17_small  (p0 : T_law17_Op) : Option (Bool) :=
  some ((decide (p0.A_ ≥ (-1000))) && ((decide (p0.A_ ≤ 1000)) && ((decide (p0.B_ ≥ (-1000000))) && (decide (p0.B_ ≤ 1000000)))))
theorem ok_law17_small (H : Heap) {p0 : T_law17_Op} {ra : Bool} (hF : law17_small p0 = some ra) : evS X 14 [.agg (m0_law17_Op p0)] H = some (.one .top (.bool ra), H) := by
 let E1 : EN := (1, vl 1 0)
 let B2 : EB := (1, (m0_law17_Op p0))
 let L3 : List EN := [(3, vl 1 7), (4, vi p0.A_)]
 let L4 : List EN := [E1] ++ L3
 let L5 : List EN := [(5, vT), (6, vT), (7, vl 1 7), (8, vi p0.A_)]
 let L6 : List EN := [(9, vT), (10, vT), (11, vT), (12, vl 1 8), (13, vi p0.B_)]
 let L7 : List EN := [(15, vF), (16, vF), (17, vN), (18, vN), (19, vN), (20, vF)]
 let L8 : List EN := [(10, vF), (11, vF), (12, vN), (13, vN), (14, vN)] ++ L7
 refine yf Try.func14 true ⟨[(0, .agg (m0_law17_Op p0))], [], H⟩ ?_
 unfold law17_small at hF
 refine ysg ⟨[E1], [B2], H⟩ ?_
 refine yso ⟨[(2, vb ((decide (p0.A_ ≥ (-1000))) && ((decide (p0.A_ ≤ 1000)) && ((decide (p0.B_ ≥ (-1000000))) && (decide (p0.B_ ≤ 1000000))))))], [], H⟩ ?_ ?_
 refine yr 4 ⟨L4 ++ [(5, vb (decide (p0.A_ ≥ (-1000)))), (6, vb (decide (p0.A_ ≥ (-1000))))], [B2], H⟩ ?_
 rcases bool_cases (decide (p0.A_ ≥ (-1000))) with h1 | h1
 refine o_eq (congrArg (fun q => (⟨L4 ++ [(5, vb q), (6, vb q)], [B2], H⟩ : St)) h1) ?_
 refine yr 5 ⟨L4 ++ L5 ++ [(9, vb (decide (p0.A_ ≤ 1000))), (10, vb (decide (p0.A_ ≤ 1000))), (11, vb (decide (p0.A_ ≤ 1000)))], [B2], H⟩ ?_
 rcases bool_cases (decide (p0.A_ ≤ 1000)) with h2 | h2
 refine o_eq (congrArg (fun q => (⟨L4 ++ L5 ++ [(9, vb q), (10, vb q), (11, vb q)], [B2], H⟩ : St)) h2) ?_
 refine yr 5 ⟨L4 ++ L5 ++ L6 ++ [(14, vb (decide (p0.B_ ≥ (-1000000)))), (15, vb (decide (p0.B_ ≥ (-1000000)))), (16, vb (decide (p0.B_ ≥ (-1000000))))], [B2], H⟩ ?_
 rcases bool_cases (decide (p0.B_ ≥ (-1000000))) with h3 | h3
 refine o_eq (congrArg (fun q => (⟨L4 ++ L5 ++ L6 ++ [(14, vb q), (15, vb q), (16, vb q)], [B2], H⟩ : St)) h3) ?_
 refine yr 5 ⟨[E1, (2, vb (decide (p0.B_ ≤ 1000000)))] ++ L3 ++ L5 ++ L6 ++ [(14, vT), (15, vT), (16, vT), (17, vl 1 8), (18, vi p0.B_), (19, vb (decide (p0.B_ ≤ 1000000))), (20, vb (decide (p0.B_ ≤ 1000000)))], [B2], H⟩ ?_
 refine o_eq2 (congrArg (fun q0 => (⟨[(2, vb q0)], [], H⟩ : St)) (show (decide (p0.B_ ≤ 1000000)) = ((decide (p0.A_ ≥ (-1000))) && ((decide (p0.A_ ≤ 1000)) && ((decide (p0.B_ ≥ (-1000000))) && (decide (p0.B_ ≤ 1000000))))) by simp [h1, h2, h3])) ?_
 exact ye
 refine o_eq (congrArg (fun q => (⟨L4 ++ L5 ++ L6 ++ [(14, vb q), (15, vb q), (16, vb q)], [B2], H⟩ : St)) h3) ?_
 refine yr 5 ⟨[E1, (2, vF)] ++ L3 ++ L5 ++ L6 ++ [(14, vF)] ++ L7, [B2], H⟩ ?_
 refine o_eq2 (congrArg (fun q0 => (⟨[(2, vb q0)], [], H⟩ : St)) (show false = ((decide (p0.A_ ≥ (-1000))) && ((decide (p0.A_ ≤ 1000)) && ((decide (p0.B_ ≥ (-1000000))) && (decide (p0.B_ ≤ 1000000))))) by simp [h1, h2, h3])) ?_
 exact ye
 refine o_eq (congrArg (fun q => (⟨L4 ++ L5 ++ [(9, vb q), (10, vb q), (11, vb q)], [B2], H⟩ : St)) h2) ?_
 refine yr 10 ⟨[E1, (2, vF)] ++ L3 ++ L5 ++ [(9, vF)] ++ L8, [B2], H⟩ ?_
 refine o_eq2 (congrArg (fun q0 => (⟨[(2, vb q0)], [], H⟩ : St)) (show false = ((decide (p0.A_ ≥ (-1000))) && ((decide (p0.A_ ≤ 1000)) && ((decide (p0.B_ ≥ (-1000000))) && (decide (p0.B_ ≤ 1000000))))) by simp [h1, h2])) ?_
 exact ye
 refine o_eq (congrArg (fun q => (⟨L4 ++ [(5, vb q), (6, vb q)], [B2], H⟩ : St)) h1) ?_
 refine yr 15 ⟨[E1, (2, vF)] ++ L3 ++ [(5, vF), (6, vF), (7, vN), (8, vN), (9, vN)] ++ L8, [B2], H⟩ ?_
 refine o_eq2 (congrArg (fun q0 => (⟨[(2, vb q0)], [], H⟩ : St)) (show false = ((decide (p0.A_ ≥ (-1000))) && ((decide (p0.A_ ≤ 1000)) && ((decide (p0.B_ ≥ (-1000000))) && (decide (p0.B_ ≤ 1000000))))) by simp [h1])) ?_
 exact ye
 refine w_ret ?_
 obtain e0 := some1_inv hF
 subst e0
 exact yp (vb ((decide (p0.A_ ≥ (-1000))) && ((decide (p0.A_ ≤ 1000)) && ((decide (p0.B_ ≥ (-1000000))) && (decide (p0.B_ ≤ 1000000))))))
noncomputable def emit_Code_Hide (H : Heap) (p0 : Ptr) : Option (Heap × (List Int)) :=
  (p0).bnd fun i1 o2 =>
  bind1 (get_emit_Code H i1 o2) fun x4 =>
  bnd (set_emit_Code H i1 o2 (T_emit_Code.mk x4.words_ x4.fixups_ x4.marks_ x4.pads_ ([] : List Int) x4.depth_ x4.most_ x4.err_)) fun H6 =>
  bind1 (ranges_Builder_Mark H6 (Ptr.at i1 (o2 + 2)) (x4.words_.length : Int) (-1)) fun H10 =>
  some (H10, x4.active_)
theorem ok_emit_Code_Hide (H : Heap) {p0 : Ptr} {ra : (List Int)} {Hr : Heap} (hF : emit_Code_Hide H p0 = some (Hr, ra)) : evS X 15 [.one .top (Ptr.av p0)] H = some (.one (.own 1) (.sl 1 (List.map (eI .i64) ra)), Hr) := by
 refine yf Try.func15 false ⟨[(0, vp p0)], [], H⟩ ?_
 unfold emit_Code_Hide at hF
 refine ysg ⟨[(0, vp p0)], [], H⟩ ?_ (h := (by generalize p0 = qp0; cases qp0 <;> kernel_rfl))
 refine w_seq ?_
 obtain ⟨i1, o2, h3, hF⟩ := pbnd_inv hF
 let E4 : EN := (11, vo i1 o2)
 let E5 : EN := (12, vo i1 o2)
 let L10 : List EN := [(0, vo i1 o2), (4, vo i1 o2), (5, vo i1 o2), (6, vo i1 (o2 + 4))]
 obtain ⟨x4, V5, hF⟩ := bind1_inv hF
 replace V5 := hgetT_inv V5
 let W1 : Heap := hset H i1 o2 [((.own 1), .sl 1 (List.map (eI .u32) x4.words_)), ((.own 1), .sl 4 (List.map e_api_Fixup x4.fixups_)), ((.own 1), .sl 2 (List.map e_api_Segment x4.marks_.list_)), ((.own 1), .sl 1 (List.map (eI .i64) x4.pads_)), (.top, .junk), (.top, .int .i64 x4.depth_), (.top, .int .i64 x4.most_), (.top, .int .i64 x4.err_)]
 let W2 : Heap := hset H i1 o2 [((.own 1), .sl 1 (List.map (eI .u32) x4.words_)), ((.own 1), .sl 4 (List.map e_api_Fixup x4.fixups_)), ((.own 1), .sl 2 (List.map e_api_Segment x4.marks_.list_)), ((.own 1), .sl 1 (List.map (eI .i64) x4.pads_)), ((.own 1), .sl 1 (List.map (eI .i64) ([] : List Int))), (.top, .int .i64 x4.depth_), (.top, .int .i64 x4.most_), (.top, .int .i64 x4.err_)]
 let E3 : EN := (3, .one (.own 1) (.sl 1 (List.map (eI .i64) x4.active_)))
 let E6 : EN := (15, vi (x4.words_.length : Int))
 let L7 : List EN := [(0, vo i1 o2), E3]
 let L8 : List EN := L7 ++ [E4, E5, (13, vo i1 (o2 + 2)), (14, vo i1 o2)]
 let L9 : List EN := L7 ++ [(8, vo i1 o2), (9, vo i1 o2), (10, vo i1 (o2 + 4))]
 refine w_regO ⟨L7, [], W1⟩ ?_ ?_
 refine yr 1 ⟨[(0, vp p0), (4, vp p0)], [], H⟩ ?_ (h := (by generalize p0 = qp0; cases qp0 <;> kernel_rfl))
 refine o_eq (congrArg (fun q => (⟨[(0, vp q), (4, vp q)], [], H⟩ : St)) h3) ?_
 refine yr 1 ⟨[(0, vo i1 o2), (4, vo i1 o2), (5, vo i1 o2)], [], H⟩ ?_
 refine yr 1 ⟨L10, [], H⟩ ?_
 refine o_one ⟨L10 ++ [(7, .one (.own 1) (.sl 1 (List.map (eI .i64) x4.active_)))], [], W1⟩ (st_ldT (X := X) (h2 := W1) (⟨L10, [], H⟩ : St) 26 V5 4 1 false (.one (.own 1) (.sl 1 (List.map (eI .i64) x4.active_))) (some 7) (by kernel_rfl) (by kernel_rfl) (by kernel_rfl) (by kernel_rfl) (by kernel_rfl) (hset_sub0 V5 (Nat.le_of_ble_eq_true rfl)) (by kernel_rfl)) ?_
 refine yr 1 ⟨L7 ++ [(4, vo i1 o2), (5, vo i1 o2), (6, vo i1 (o2 + 4)), (7, .one .top .junk)], [], W1⟩ ?_
 exact ye
 refine w_seq ?_
 obtain ⟨H6, h7, hF⟩ := bnd_inv hF
 have V8 : hget H6 i1 o2 8 = some (o_emit_Code (T_emit_Code.mk x4.words_ x4.fixups_ x4.marks_ x4.pads_ ([] : List Int) x4.depth_ x4.most_ x4.err_)) := by rw [← h7]; exact hset_get V5 rfl
 refine w_regO ⟨L7, [], H6⟩ ?_ ?_
 refine yr 3 ⟨L9, [], W1⟩ ?_
 refine o_one ⟨L9, [], W2⟩ (st_st (X := X) (lc := []) (h2 := W2) (⟨L9, [], W1⟩ : St) 26 (hset_get V5 rfl) 4 1 (.one (.own 1) (.sl 1 (List.map (eI .i64) ([] : List Int)))) (by kernel_rfl) (by kernel_rfl) (by kernel_rfl) (by kernel_rfl) (by kernel_rfl) (by kernel_rfl) (hset_sub V5 rfl (Nat.le_of_ble_eq_true rfl)) (by kernel_rfl)) ?_
 refine o_eq (congrArg (fun q => (⟨L9, [], q⟩ : St)) h7) ?_
 exact ye
 refine w_seq ?_
 obtain ⟨H10, c9, hF⟩ := bind1_inv hF
 refine w_regD (.take 0 (.take 1 (.take 2 (.take 3 (.last 4 (.last 5 .done)))))) (by kernel_rfl) (⟨[E3], [], H10⟩ : St) ?_ ?_
 refine ydk 4 ⟨L8, [], H6⟩ ?_
 refine d_last ⟨L8 ++ [E6], [], H6⟩ (yc (some 15) true false (⟨L8, [], H6⟩ : St) (len_emit_Code_Here (H := H6) V8)) ?_
 refine d_last ⟨L8 ++ [E6, (16, vN)], [], H10⟩ (yc (some 16) false false (⟨L8 ++ [E6], [], H6⟩ : St) (ok_ranges_Builder_Mark H6 c9)) ?_
 exact yde
 refine ysg ⟨[(2, .one (.own 1) (.sl 1 (List.map (eI .i64) x4.active_)))], [], H10⟩ ?_
 refine w_ret ?_
 obtain ⟨e0, e1⟩ := some2_inv hF
 subst e0
 subst e1
 exact yi (.one (.own 1) (.sl 1 (List.map (eI .i64) x4.active_)))
noncomputable def ref02_Shape_j6 (p0 : Int) (j14 : Bool) : Option (Int) :=
  if j14 = true then (some 7)
  else (if (p0 == 28) = true then (some 8)
  else (some (-1)))
noncomputable def ref02_Shape_j5 (p0 : Int) (j12 : Bool) : Option (Int) :=
  if j12 = true then (some 6)
  else (if (p0 == 22) = true then (ref02_Shape_j6 p0 (p0 == 22))
  else (ref02_Shape_j6 p0 (p0 == 23)))
noncomputable def ref02_Shape_j7 (p0 : Int) (j19 : Bool) : Option (Int) :=
  ref02_Shape_j5 p0 j19
noncomputable def ref02_Shape_j8 (p0 : Int) (j21 : Bool) : Option (Int) :=
  ref02_Shape_j7 p0 j21
noncomputable def ref02_Shape_j9 (p0 : Int) (j23 : Bool) : Option (Int) :=
  ref02_Shape_j8 p0 j23
noncomputable def ref02_Shape_j10 (p0 : Int) (j25 : Bool) : Option (Int) :=
  ref02_Shape_j9 p0 j25
noncomputable def ref02_Shape_j4 (p0 : Int) (j10 : Bool) : Option (Int) :=
  if j10 = true then (some 4)
  else (if (p0 == 24) = true then (ref02_Shape_j5 p0 (p0 == 24))
  else (if (p0 == 25) = true then (ref02_Shape_j7 p0 (p0 == 25))
  else (if (p0 == 27) = true then (ref02_Shape_j8 p0 (p0 == 27))
  else (if (p0 == 29) = true then (ref02_Shape_j9 p0 (p0 == 29))
  else (if (p0 == 31) = true then (ref02_Shape_j10 p0 (p0 == 31))
  else (ref02_Shape_j10 p0 (p0 == 32)))))))
noncomputable def ref02_Shape_j11 (p0 : Int) (j28 : Bool) : Option (Int) :=
  ref02_Shape_j4 p0 j28
noncomputable def ref02_Shape_j3 (p0 : Int) (j8 : Bool) : Option (Int) :=
  if j8 = true then (some 3)
  else (if (p0 == 4) = true then (ref02_Shape_j4 p0 (p0 == 4))
  else (if (p0 == 26) = true then (ref02_Shape_j11 p0 (p0 == 26))
  else (ref02_Shape_j11 p0 (p0 == 34))))
noncomputable def ref02_Shape_j12 (p0 : Int) (j31 : Bool) : Option (Int) :=
  ref02_Shape_j3 p0 j31
noncomputable def ref02_Shape_j2 (p0 : Int) (j6 : Bool) : Option (Int) :=
  if j6 = true then (some 2)
  else (if (p0 == 5) = true then (ref02_Shape_j3 p0 (p0 == 5))
  else (if (p0 == 18) = true then (ref02_Shape_j12 p0 (p0 == 18))
  else (ref02_Shape_j12 p0 (p0 == 19))))
noncomputable def ref02_Shape_j13 (p0 : Int) (j34 : Bool) : Option (Int) :=
  ref02_Shape_j2 p0 j34
noncomputable def ref02_Shape_j1 (p0 : Int) (j4 : Bool) : Option (Int) :=
  if j4 = true then (some 1)
  else (if (p0 == 3) = true then (ref02_Shape_j2 p0 (p0 == 3))
  else (if (p0 == 30) = true then (ref02_Shape_j13 p0 (p0 == 30))
  else (ref02_Shape_j13 p0 (p0 == 33))))
noncomputable def ref02_Shape_j14 (p0 : Int) (j37 : Bool) : Option (Int) :=
  ref02_Shape_j1 p0 j37
noncomputable def ref02_Shape  (p0 : Int) : Option (Int) :=
  if ((decide (p0 ≥ 6)) && (decide (p0 ≤ 17))) = true then (some 5)
  else (if (p0 == 1) = true then (some 0)
  else (if (p0 == 2) = true then (ref02_Shape_j1 p0 (p0 == 2))
  else (if (p0 == 20) = true then (ref02_Shape_j14 p0 (p0 == 20))
  else (ref02_Shape_j14 p0 (p0 == 21)))))
theorem ok_ref02_Shape (H : Heap) {p0 : Int} {ra : Int} (hF : ref02_Shape p0 = some ra) : evS X 49 [.one .top (.int .i64 p0)] H = some (.one .top (.int .i64 ra), H) := by
 let E1 : EN := (0, vi p0)
 let E2 : EN := (9, vi p0)
 let L3 : List EN := [E1, (3, vi p0)]
 let S4 : St := ⟨[E1], [], H⟩
 let S5 : St := ⟨[], [], H⟩
 let S6 : St := ⟨[E2], [], H⟩
 let S7 : St := ⟨[E2, (12, vb (p0 == 2))], [], H⟩
 let S8 : St := ⟨[E2, (16, vb (p0 == 3))], [], H⟩
 let S9 : St := ⟨[E2, (20, vb (p0 == 5))], [], H⟩
 let S10 : St := ⟨[E2, (24, vb (p0 == 4))], [], H⟩
 let S11 : St := ⟨[E2, (28, vb (p0 == 24))], [], H⟩
 let S12 : St := ⟨[E2, (35, vb (p0 == 22))], [], H⟩
 let S13 : St := ⟨[E2, (28, vb (p0 == 25))], [], H⟩
 let S14 : St := ⟨[E2, (28, vb (p0 == 27))], [], H⟩
 let S15 : St := ⟨[E2, (28, vb (p0 == 29))], [], H⟩
 let S16 : St := ⟨[E2, (28, vb (p0 == 31))], [], H⟩
 let S17 : St := ⟨[E2, (24, vb (p0 == 26))], [], H⟩
 let S18 : St := ⟨[E2, (20, vb (p0 == 18))], [], H⟩
 let S19 : St := ⟨[E2, (16, vb (p0 == 30))], [], H⟩
 let S20 : St := ⟨[E2, (12, vb (p0 == 20))], [], H⟩
 refine yf Try.func49 true S4 ?_
 unfold ref02_Shape at hF
 refine ysg S4 ?_
 refine w_seq ?_
 refine yso ⟨[E1, (8, vb ((decide (p0 ≥ 6)) && (decide (p0 ≤ 17))))], [], H⟩ ?_ ?_
 refine yr 3 ⟨L3 ++ [(4, vb (decide (p0 ≥ 6))), (5, vb (decide (p0 ≥ 6)))], [], H⟩ ?_
 rcases bool_cases (decide (p0 ≥ 6)) with h1 | h1
 refine o_eq (congrArg (fun q => (⟨L3 ++ [(4, vb q), (5, vb q)], [], H⟩ : St)) h1) ?_
 refine yr 3 ⟨L3 ++ [(4, vT), (5, vT), (6, vi p0), (7, vb (decide (p0 ≤ 17))), (8, vb (decide (p0 ≤ 17)))], [], H⟩ ?_
 refine o_eq2 (congrArg (fun q0 => (⟨[E1, (8, vb q0)], [], H⟩ : St)) (show (decide (p0 ≤ 17)) = ((decide (p0 ≥ 6)) && (decide (p0 ≤ 17))) by simp [h1])) ?_
 exact ye
 refine o_eq (congrArg (fun q => (⟨L3 ++ [(4, vb q), (5, vb q)], [], H⟩ : St)) h1) ?_
 refine yr 3 ⟨L3 ++ [(4, vF), (5, vF), (6, vN), (7, vN), (8, vF)], [], H⟩ ?_
 refine o_eq2 (congrArg (fun q0 => (⟨[E1, (8, vb q0)], [], H⟩ : St)) (show false = ((decide (p0 ≥ 6)) && (decide (p0 ≤ 17))) by simp [h1])) ?_
 exact ye
 rcases if_inv hF with ⟨h2, hF⟩ | ⟨h2, hF⟩
 refine yT h2 S5 ?_
 refine ysg ⟨[(2, vi 5)], [], H⟩ ?_
 refine w_ret ?_
 obtain e0 := some1_inv hF
 subst e0
 exact yp (vi 5)
 refine yF h2 S4 ?_
 refine w_skip ?_
 refine ysg S6 ?_
 refine w_block ?_
 refine ysg ⟨[E2, (10, vb (p0 == 1))], [], H⟩ ?_
 rcases if_inv hF with ⟨h3, hF⟩ | ⟨h3, hF⟩
 refine yT h3 S5 ?_
 refine ysg ⟨[(2, vi 0)], [], H⟩ ?_
 refine w_ret ?_
 obtain e0 := some1_inv hF
 subst e0
 exact yp (vi 0)
 refine yF h3 S6 ?_
 refine w_seq ?_
 refine ysg S7 ?_
 refine w_join (α := (Bool)) (fun x => (⟨[E2, (12, vb x)], [], H⟩ : St)) (fun x => ref02_Shape_j1 p0 x = some ra) ?_ ?_
 rintro j4 hF
 replace hF : ref02_Shape_j1 p0 j4 = some ra := hF
 unfold ref02_Shape_j1 at hF
 rcases if_inv hF with ⟨h5, hF⟩ | ⟨h5, hF⟩
 refine yT h5 S5 ?_
 refine ysg ⟨[(2, vi 1)], [], H⟩ ?_
 refine w_ret ?_
 obtain e0 := some1_inv hF
 subst e0
 exact yp (vi 1)
 refine yF h5 S6 ?_
 refine w_seq ?_
 refine ysg S8 ?_
 refine w_join (α := (Bool)) (fun x => (⟨[E2, (16, vb x)], [], H⟩ : St)) (fun x => ref02_Shape_j2 p0 x = some ra) ?_ ?_
 rintro j6 hF
 replace hF : ref02_Shape_j2 p0 j6 = some ra := hF
 unfold ref02_Shape_j2 at hF
 rcases if_inv hF with ⟨h7, hF⟩ | ⟨h7, hF⟩
 refine yT h7 S5 ?_
 refine ysg ⟨[(2, vi 2)], [], H⟩ ?_
 refine w_ret ?_
 obtain e0 := some1_inv hF
 subst e0
 exact yp (vi 2)
 refine yF h7 S6 ?_
 refine w_seq ?_
 refine ysg S9 ?_
 refine w_join (α := (Bool)) (fun x => (⟨[E2, (20, vb x)], [], H⟩ : St)) (fun x => ref02_Shape_j3 p0 x = some ra) ?_ ?_
 rintro j8 hF
 replace hF : ref02_Shape_j3 p0 j8 = some ra := hF
 unfold ref02_Shape_j3 at hF
 rcases if_inv hF with ⟨h9, hF⟩ | ⟨h9, hF⟩
 refine yT h9 S5 ?_
 refine ysg ⟨[(2, vi 3)], [], H⟩ ?_
 refine w_ret ?_
 obtain e0 := some1_inv hF
 subst e0
 exact yp (vi 3)
 refine yF h9 S6 ?_
 refine w_seq ?_
 refine ysg S10 ?_
 refine w_join (α := (Bool)) (fun x => (⟨[E2, (24, vb x)], [], H⟩ : St)) (fun x => ref02_Shape_j4 p0 x = some ra) ?_ ?_
 rintro j10 hF
 replace hF : ref02_Shape_j4 p0 j10 = some ra := hF
 unfold ref02_Shape_j4 at hF
 rcases if_inv hF with ⟨h11, hF⟩ | ⟨h11, hF⟩
 refine yT h11 S5 ?_
 refine ysg ⟨[(2, vi 4)], [], H⟩ ?_
 refine w_ret ?_
 obtain e0 := some1_inv hF
 subst e0
 exact yp (vi 4)
 refine yF h11 S6 ?_
 refine w_seq ?_
 refine ysg S11 ?_
 refine w_join (α := (Bool)) (fun x => (⟨[E2, (28, vb x)], [], H⟩ : St)) (fun x => ref02_Shape_j5 p0 x = some ra) ?_ ?_
 rintro j12 hF
 replace hF : ref02_Shape_j5 p0 j12 = some ra := hF
 unfold ref02_Shape_j5 at hF
 rcases if_inv hF with ⟨h13, hF⟩ | ⟨h13, hF⟩
 refine yT h13 S5 ?_
 refine ysg ⟨[(2, vi 6)], [], H⟩ ?_
 refine w_ret ?_
 obtain e0 := some1_inv hF
 subst e0
 exact yp (vi 6)
 refine yF h13 S6 ?_
 refine w_seq ?_
 refine ysg S12 ?_
 refine w_join (α := (Bool)) (fun x => (⟨[E2, (35, vb x)], [], H⟩ : St)) (fun x => ref02_Shape_j6 p0 x = some ra) ?_ ?_
 rintro j14 hF
 replace hF : ref02_Shape_j6 p0 j14 = some ra := hF
 unfold ref02_Shape_j6 at hF
 rcases if_inv hF with ⟨h15, hF⟩ | ⟨h15, hF⟩
 refine yT h15 S5 ?_
 refine ysg ⟨[(2, vi 7)], [], H⟩ ?_
 refine w_ret ?_
 obtain e0 := some1_inv hF
 subst e0
 exact yp (vi 7)
 refine yF h15 S6 ?_
 refine ysg ⟨[(38, vb (p0 == 28))], [], H⟩ ?_
 rcases if_inv hF with ⟨h16, hF⟩ | ⟨h16, hF⟩
 refine yT h16 S5 ?_
 refine ysg ⟨[(2, vi 8)], [], H⟩ ?_
 refine w_ret ?_
 obtain e0 := some1_inv hF
 subst e0
 exact yp (vi 8)
 refine yF h16 S5 ?_
 refine ysg ⟨[(2, vi (-1))], [], H⟩ ?_
 refine w_ret ?_
 obtain e0 := some1_inv hF
 subst e0
 exact yp (vi (-1))
 rcases if_inv hF with ⟨h17, hF⟩ | ⟨h17, hF⟩
 refine yT h17 S12 ?_
 refine w_skip ?_
 exact ⟨(p0 == 22), hF, (by kernel_rfl)⟩
 refine yF h17 S6 ?_
 refine yg ⟨[E2, (35, vb (p0 == 23))], [], H⟩ ?_
 exact ⟨(p0 == 23), hF, (by kernel_rfl)⟩
 rcases if_inv hF with ⟨h18, hF⟩ | ⟨h18, hF⟩
 refine yT h18 S11 ?_
 refine w_skip ?_
 exact ⟨(p0 == 24), hF, (by kernel_rfl)⟩
 refine yF h18 S6 ?_
 refine ysg S13 ?_
 refine w_join (α := (Bool)) (fun x => (⟨[E2, (28, vb x)], [], H⟩ : St)) (fun x => ref02_Shape_j7 p0 x = some ra) ?_ ?_
 rintro j19 hF
 replace hF : ref02_Shape_j7 p0 j19 = some ra := hF
 unfold ref02_Shape_j7 at hF
 exact ⟨j19, hF, (by kernel_rfl)⟩
 rcases if_inv hF with ⟨h20, hF⟩ | ⟨h20, hF⟩
 refine yT h20 S13 ?_
 refine w_skip ?_
 exact ⟨(p0 == 25), hF, (by kernel_rfl)⟩
 refine yF h20 S6 ?_
 refine ysg S14 ?_
 refine w_join (α := (Bool)) (fun x => (⟨[E2, (28, vb x)], [], H⟩ : St)) (fun x => ref02_Shape_j8 p0 x = some ra) ?_ ?_
 rintro j21 hF
 replace hF : ref02_Shape_j8 p0 j21 = some ra := hF
 unfold ref02_Shape_j8 at hF
 exact ⟨j21, hF, (by kernel_rfl)⟩
 rcases if_inv hF with ⟨h22, hF⟩ | ⟨h22, hF⟩
 refine yT h22 S14 ?_
 refine w_skip ?_
 exact ⟨(p0 == 27), hF, (by kernel_rfl)⟩
 refine yF h22 S6 ?_
 refine ysg S15 ?_
 refine w_join (α := (Bool)) (fun x => (⟨[E2, (28, vb x)], [], H⟩ : St)) (fun x => ref02_Shape_j9 p0 x = some ra) ?_ ?_
 rintro j23 hF
 replace hF : ref02_Shape_j9 p0 j23 = some ra := hF
 unfold ref02_Shape_j9 at hF
 exact ⟨j23, hF, (by kernel_rfl)⟩
 rcases if_inv hF with ⟨h24, hF⟩ | ⟨h24, hF⟩
 refine yT h24 S15 ?_
 refine w_skip ?_
 exact ⟨(p0 == 29), hF, (by kernel_rfl)⟩
 refine yF h24 S6 ?_
 refine ysg S16 ?_
 refine w_join (α := (Bool)) (fun x => (⟨[E2, (28, vb x)], [], H⟩ : St)) (fun x => ref02_Shape_j10 p0 x = some ra) ?_ ?_
 rintro j25 hF
 replace hF : ref02_Shape_j10 p0 j25 = some ra := hF
 unfold ref02_Shape_j10 at hF
 exact ⟨j25, hF, (by kernel_rfl)⟩
 rcases if_inv hF with ⟨h26, hF⟩ | ⟨h26, hF⟩
 refine yT h26 S16 ?_
 refine w_skip ?_
 exact ⟨(p0 == 31), hF, (by kernel_rfl)⟩
 refine yF h26 S6 ?_
 refine yg ⟨[E2, (28, vb (p0 == 32))], [], H⟩ ?_
 exact ⟨(p0 == 32), hF, (by kernel_rfl)⟩
 rcases if_inv hF with ⟨h27, hF⟩ | ⟨h27, hF⟩
 refine yT h27 S10 ?_
 refine w_skip ?_
 exact ⟨(p0 == 4), hF, (by kernel_rfl)⟩
 refine yF h27 S6 ?_
 refine ysg S17 ?_
 refine w_join (α := (Bool)) (fun x => (⟨[E2, (24, vb x)], [], H⟩ : St)) (fun x => ref02_Shape_j11 p0 x = some ra) ?_ ?_
 rintro j28 hF
 replace hF : ref02_Shape_j11 p0 j28 = some ra := hF
 unfold ref02_Shape_j11 at hF
 exact ⟨j28, hF, (by kernel_rfl)⟩
 rcases if_inv hF with ⟨h29, hF⟩ | ⟨h29, hF⟩
 refine yT h29 S17 ?_
 refine w_skip ?_
 exact ⟨(p0 == 26), hF, (by kernel_rfl)⟩
 refine yF h29 S6 ?_
 refine yg ⟨[E2, (24, vb (p0 == 34))], [], H⟩ ?_
 exact ⟨(p0 == 34), hF, (by kernel_rfl)⟩
 rcases if_inv hF with ⟨h30, hF⟩ | ⟨h30, hF⟩
 refine yT h30 S9 ?_
 refine w_skip ?_
 exact ⟨(p0 == 5), hF, (by kernel_rfl)⟩
 refine yF h30 S6 ?_
 refine ysg S18 ?_
 refine w_join (α := (Bool)) (fun x => (⟨[E2, (20, vb x)], [], H⟩ : St)) (fun x => ref02_Shape_j12 p0 x = some ra) ?_ ?_
 rintro j31 hF
 replace hF : ref02_Shape_j12 p0 j31 = some ra := hF
 unfold ref02_Shape_j12 at hF
 exact ⟨j31, hF, (by kernel_rfl)⟩
 rcases if_inv hF with ⟨h32, hF⟩ | ⟨h32, hF⟩
 refine yT h32 S18 ?_
 refine w_skip ?_
 exact ⟨(p0 == 18), hF, (by kernel_rfl)⟩
 refine yF h32 S6 ?_
 refine yg ⟨[E2, (20, vb (p0 == 19))], [], H⟩ ?_
 exact ⟨(p0 == 19), hF, (by kernel_rfl)⟩
 rcases if_inv hF with ⟨h33, hF⟩ | ⟨h33, hF⟩
 refine yT h33 S8 ?_
 refine w_skip ?_
 exact ⟨(p0 == 3), hF, (by kernel_rfl)⟩
 refine yF h33 S6 ?_
 refine ysg S19 ?_
 refine w_join (α := (Bool)) (fun x => (⟨[E2, (16, vb x)], [], H⟩ : St)) (fun x => ref02_Shape_j13 p0 x = some ra) ?_ ?_
 rintro j34 hF
 replace hF : ref02_Shape_j13 p0 j34 = some ra := hF
 unfold ref02_Shape_j13 at hF
 exact ⟨j34, hF, (by kernel_rfl)⟩
 rcases if_inv hF with ⟨h35, hF⟩ | ⟨h35, hF⟩
 refine yT h35 S19 ?_
 refine w_skip ?_
 exact ⟨(p0 == 30), hF, (by kernel_rfl)⟩
 refine yF h35 S6 ?_
 refine yg ⟨[E2, (16, vb (p0 == 33))], [], H⟩ ?_
 exact ⟨(p0 == 33), hF, (by kernel_rfl)⟩
 rcases if_inv hF with ⟨h36, hF⟩ | ⟨h36, hF⟩
 refine yT h36 S7 ?_
 refine w_skip ?_
 exact ⟨(p0 == 2), hF, (by kernel_rfl)⟩
 refine yF h36 S6 ?_
 refine ysg S20 ?_
 refine w_join (α := (Bool)) (fun x => (⟨[E2, (12, vb x)], [], H⟩ : St)) (fun x => ref02_Shape_j14 p0 x = some ra) ?_ ?_
 rintro j37 hF
 replace hF : ref02_Shape_j14 p0 j37 = some ra := hF
 unfold ref02_Shape_j14 at hF
 exact ⟨j37, hF, (by kernel_rfl)⟩
 rcases if_inv hF with ⟨h38, hF⟩ | ⟨h38, hF⟩
 refine yT h38 S20 ?_
 refine w_skip ?_
 exact ⟨(p0 == 20), hF, (by kernel_rfl)⟩
 refine yF h38 S6 ?_
 refine yg ⟨[E2, (12, vb (p0 == 21))], [], H⟩ ?_
 exact ⟨(p0 == 21), hF, (by kernel_rfl)⟩
noncomputable def ref02_has  (p0 : Int) : Option (Bool × Bool × Bool) :=
  some (((decide (p0 ≥ 1)) && (decide (p0 ≤ 6))), ((decide (p0 ≥ 3)) && (decide (p0 ≤ 5))), (p0 == 5))
theorem ok_ref02_has (H : Heap) {p0 : Int} {ra : Bool} {rb : Bool} {rc : Bool} (hF : ref02_has p0 = some (ra, rb, rc)) : evS X 55 [.one .top (.int .i64 p0)] H = some (.tup [.one .top (.bool ra), .one .top (.bool rb), .one .top (.bool rc)], H) := by
 let E1 : EN := (0, vi p0)
 let E2 : EN := (7, vi p0)
 let E3 : EN := (13, vi p0)
 let L4 : List EN := [E1, (5, vb ((decide (p0 ≥ 1)) && (decide (p0 ≤ 6))))]
 refine yf Try.func55 true ⟨[E1], [], H⟩ ?_
 unfold ref02_has at hF
 refine ysg ⟨[E1], [], H⟩ ?_
 refine yso ⟨L4, [], H⟩ ?_ ?_
 refine yr 3 ⟨[E1, E2, (8, vb (decide (p0 ≥ 1))), (9, vb (decide (p0 ≥ 1)))], [], H⟩ ?_
 rcases bool_cases (decide (p0 ≥ 1)) with h1 | h1
 refine o_eq (congrArg (fun q => (⟨[E1, E2, (8, vb q), (9, vb q)], [], H⟩ : St)) h1) ?_
 refine yr 4 ⟨[E1, (5, vb (decide (p0 ≤ 6))), E2, (8, vT), (9, vT), (10, vi p0), (11, vb (decide (p0 ≤ 6))), (12, vb (decide (p0 ≤ 6)))], [], H⟩ ?_
 refine o_eq2 (congrArg (fun q0 => (⟨[E1, (5, vb q0)], [], H⟩ : St)) (show (decide (p0 ≤ 6)) = ((decide (p0 ≥ 1)) && (decide (p0 ≤ 6))) by simp [h1])) ?_
 exact ye
 refine o_eq (congrArg (fun q => (⟨[E1, E2, (8, vb q), (9, vb q)], [], H⟩ : St)) h1) ?_
 refine yr 4 ⟨[E1, (5, vF), E2, (8, vF), (9, vF), (10, vN), (11, vN), (12, vF)], [], H⟩ ?_
 refine o_eq2 (congrArg (fun q0 => (⟨[E1, (5, vb q0)], [], H⟩ : St)) (show false = ((decide (p0 ≥ 1)) && (decide (p0 ≤ 6))) by simp [h1])) ?_
 exact ye
 refine yso ⟨L4 ++ [(6, vb ((decide (p0 ≥ 3)) && (decide (p0 ≤ 5))))], [], H⟩ ?_ ?_
 refine yr 3 ⟨L4 ++ [E3, (14, vb (decide (p0 ≥ 3))), (15, vb (decide (p0 ≥ 3)))], [], H⟩ ?_
 rcases bool_cases (decide (p0 ≥ 3)) with h2 | h2
 refine o_eq (congrArg (fun q => (⟨L4 ++ [E3, (14, vb q), (15, vb q)], [], H⟩ : St)) h2) ?_
 refine yr 4 ⟨L4 ++ [(6, vb (decide (p0 ≤ 5))), E3, (14, vT), (15, vT), (16, vi p0), (17, vb (decide (p0 ≤ 5))), (18, vb (decide (p0 ≤ 5)))], [], H⟩ ?_
 refine o_eq2 (congrArg (fun q0 => (⟨L4 ++ [(6, vb q0)], [], H⟩ : St)) (show (decide (p0 ≤ 5)) = ((decide (p0 ≥ 3)) && (decide (p0 ≤ 5))) by simp [h2])) ?_
 exact ye
 refine o_eq (congrArg (fun q => (⟨L4 ++ [E3, (14, vb q), (15, vb q)], [], H⟩ : St)) h2) ?_
 refine yr 4 ⟨L4 ++ [(6, vF), E3, (14, vF), (15, vF), (16, vN), (17, vN), (18, vF)], [], H⟩ ?_
 refine o_eq2 (congrArg (fun q0 => (⟨L4 ++ [(6, vb q0)], [], H⟩ : St)) (show false = ((decide (p0 ≥ 3)) && (decide (p0 ≤ 5))) by simp [h2])) ?_
 exact ye
 refine ysg ⟨[(2, vb ((decide (p0 ≥ 1)) && (decide (p0 ≤ 6)))), (3, vb ((decide (p0 ≥ 3)) && (decide (p0 ≤ 5)))), (4, vb (p0 == 5))], [], H⟩ ?_
 refine w_ret ?_
 obtain ⟨e0, e1, e2⟩ := some3_inv hF
 subst e0
 subst e1
 subst e2
 exact yp (.tup [vb ((decide (p0 ≥ 1)) && (decide (p0 ≤ 6))), vb ((decide (p0 ≥ 3)) && (decide (p0 ≤ 5))), vb (p0 == 5)])
end Go.Proofs.Abs
