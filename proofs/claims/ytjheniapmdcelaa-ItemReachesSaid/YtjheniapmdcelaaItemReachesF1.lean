/- The law ItemReaches: whatever the input, it answers true. No conditions. (Part ItemReachesF1 of its proof.) -/
import Derived.Test.YtjheniapmdcelaaItemReachesF0
set_option linter.unusedVariables false
set_option linter.unusedSimpArgs false
set_option linter.unusedSectionVars false
/- Printed by gen (walk.py). -/
namespace Go.Proofs.Abs
open Go Go.Proofs
set_option linter.unusedVariables false
set_option maxRecDepth 100000
set_option maxHeartbeats 0
noncomputable def emit_Code_Finish_j2 (H16 : Heap) (i8 : Nat) (a15 : Int) (j23 : T_api_Segment) : Option ((Int × Heap) ⊕ ((Heap))) :=
  bind1 (ranges_Builder_Mark H16 (Ptr.at i8 0) j23.Start_ j23.Pad_) fun H25 =>
  some (Sum.inl ((IntKind.wrap .i64 (a15 + 1)), H25))
noncomputable def emit_Code_Finish_L1 (r13 : (List T_api_Segment)) (i1 : Nat) (o2 : Nat) (i8 : Nat) (a15 : Int) (H16 : Heap) : Option ((Int × Heap) ⊕ ((Heap))) :=
  if (decide (a15 < (r13.length : Int))) = true then (bind1 (gi r13 a15) fun x18 =>
  bind1 (get_emit_Code H16 i1 o2) fun x20 =>
  if (decide (x18.Start_ ≥ (x20.words_.length : Int))) = true then (some (Sum.inr H16))
  else (if (x18.Pad_ != (-1)) = true then (bind1 (gi x20.pads_ x18.Pad_) fun x27 =>
  emit_Code_Finish_j2 H16 i8 a15 (T_api_Segment.mk x18.Start_ x27))
  else (emit_Code_Finish_j2 H16 i8 a15 x18)))
  else (some (Sum.inr H16))
noncomputable def emit_Code_Finish (H : Heap) (p0 : Ptr) : Option (Heap × T_emit_Result × Int) :=
  (p0).bnd fun i1 o2 =>
  bind1 (get_emit_Code H i1 o2) fun x4 =>
  if (x4.err_ != 0) = true then (some (H, (T_emit_Result.mk ([] : List Int) ([] : List T_api_Fixup) ([] : List T_api_Segment)), x4.err_))
  else (bnd H.length fun i8 =>
  bnd (new_ranges_Builder H (T_ranges_Builder.mk ([] : List T_api_Segment))) fun H7 =>
  bind1 (get_emit_Code H7 i1 o2) fun x11 =>
  bind1 (ranges_Builder_List H7 (Ptr.at i1 (o2 + 2))) fun r13 =>
  bind1 (loopO (fun (x : (Int × Heap)) => emit_Code_Finish_L1 r13 i1 o2 i8 x.1 x.2) (0, H7)) (fun H31 =>
  bind1 (get_emit_Code H31 i1 o2) fun x32 =>
  bind1 (app 4 ([] : List Int) x32.words_) fun v34 =>
  bind1 (app 32 ([] : List T_api_Fixup) x32.fixups_) fun v36 =>
  bind1 (ranges_Builder_List H31 (Ptr.at i8 0)) fun r38 =>
  some (H31, (T_emit_Result.mk v34 v36 r38), 0)))
theorem ok_emit_Code_Finish (H : Heap) {p0 : Ptr} {ra : T_emit_Result} {rb : Int} {Hr : Heap} (hF : emit_Code_Finish H p0 = some (Hr, ra, rb)) : evS X 75 [.one .top (Ptr.av p0)] H = some (.tup [.agg (m0_emit_Result ra), .one .top (.int .i64 rb)], Hr) := by
  let E1 : Ptr → EN := fun z0 => (0, .one .top (Ptr.av z0))
  let E2 : EN := (2, .one .top (.loc 2 0))
  let B3 : EB := (2, [((.own 1), .sl 1 (List.map (eI .u32) ([] : List Int))), ((.own 1), .sl 4 (List.map e_api_Fixup ([] : List T_api_Fixup))), ((.own 1), .sl 2 (List.map e_api_Segment ([] : List T_api_Segment)))])
  let E11 : EN := (12, .agg [((.own 1), .sl 1 (List.map (eI .u32) ([] : List Int))), ((.own 1), .sl 4 (List.map e_api_Fixup ([] : List T_api_Fixup))), ((.own 1), .sl 2 (List.map e_api_Segment ([] : List T_api_Segment)))])
  let E16 : EN := (12, .agg [(.top, .junk), (.top, .junk), (.top, .junk)])
  let E18 : EN := (17, .agg [(.top, .junk)])
  let E21 : EN := (24, .one .top (.int .i64 0))
  let E26 : EN := (6, .one .top (.loc 6 0))
  let E30 : EN := (28, .one .top (.loc 6 0))
  let E38 : EN := (49, .one .top (.loc 6 0))
  let E40 : EN := (51, .one .top (.loc 6 1))
  let E48 : EN := (43, .one .top (.loc 6 1))
  let E52 : EN := (3, .one .top (.int .i64 0))
  let E63 : EN := (55, .one .top .junk)
  let E64 : EN := (60, .one .top .junk)
  let E65 : EN := (61, .one .top .junk)
  let E66 : EN := (66, .one .top .junk)
  let E67 : EN := (68, .one .top .junk)
  let E68 : EN := (69, .agg [(.top, .junk), (.top, .junk), (.top, .junk)])
  let E69 : EN := (55, .one (.own 1) (.sl 1 (List.map (eI .u32) ([] : List Int))))
  let E71 : EN := (61, .one (.own 1) (.sl 4 (List.map e_api_Fixup ([] : List T_api_Fixup))))
  refine yf Try.func75 false ⟨[(E1 p0)], [], H⟩ ?_
  unfold emit_Code_Finish at hF
  refine ysg ⟨[(E1 p0), E2], [B3], H⟩ ?_ (h := (by generalize p0 = qp0; cases qp0 <;> kernel_rfl))
  refine w_seq ?_
  refine w_seq ?_
  obtain ⟨i1, o2, h3, hF⟩ := pbnd_inv hF
  let E4 : EN := (0, .one .top (.obj i1 o2))
  let E6 : EN := (7, .one .top (.obj i1 o2))
  let E7 : EN := (8, .one .top (.obj i1 o2))
  let E8 : EN := (9, .one .top (.obj i1 (o2 + 7)))
  let E12 : EN := (13, .one .top (.obj i1 o2))
  let E13 : EN := (14, .one .top (.obj i1 o2))
  let E14 : EN := (15, .one .top (.obj i1 (o2 + 7)))
  let E22 : EN := (19, .one .top (.obj i1 o2))
  let E23 : EN := (20, .one .top (.obj i1 o2))
  let E24 : EN := (21, .one .top (.obj i1 (o2 + 2)))
  let E32 : EN := (30, .one .top (.obj i1 o2))
  let E33 : EN := (31, .one .top (.obj i1 o2))
  let E34 : EN := (32, .one .top (.obj i1 o2))
  let E44 : EN := (39, .one .top (.obj i1 o2))
  let E45 : EN := (40, .one .top (.obj i1 o2))
  let E46 : EN := (41, .one .top (.obj i1 (o2 + 3)))
  let E54 : EN := (56, .one .top (.obj i1 o2))
  let E55 : EN := (57, .one .top (.obj i1 o2))
  let E56 : EN := (58, .one .top (.obj i1 o2))
  let E58 : EN := (62, .one .top (.obj i1 o2))
  let E59 : EN := (63, .one .top (.obj i1 o2))
  let E60 : EN := (64, .one .top (.obj i1 (o2 + 1)))
  let S75 : St := ⟨[E4, E2, E6, E7, E8], [B3], H⟩
  let S76 : St := ⟨[E4, E2, E11, E12, E13, E14], [B3], H⟩
  obtain ⟨x4, V5, hF⟩ := bind1_inv hF
  replace V5 := hgetT_inv V5
  let E5 : EN := (11, .one .top (.bool (x4.err_ != 0)))
  let E9 : EN := (10, .one .top (.int .i64 x4.err_))
  let E10 : EN := (3, .one .top (.int .i64 x4.err_))
  let E15 : EN := (16, .one .top (.int .i64 x4.err_))
  refine w_regO ⟨[E4, E2, E5], [B3], H⟩ ?_ ?_
  refine yr 1 ⟨[(E1 p0), E2, (7, .one .top (Ptr.av p0))], [B3], H⟩ ?_ (h := (by generalize p0 = qp0; cases qp0 <;> kernel_rfl))
  refine o_eq (congrArg (fun q => (⟨[(0, .one .top (Ptr.av q)), E2, (7, .one .top (Ptr.av q))], [B3], H⟩ : St)) h3) ?_
  refine yr 1 ⟨[E4, E2, E6, E7], [B3], H⟩ ?_
  refine yr 1 S75 ?_
  refine o_one ⟨[E4, E2, E6, E7, E8, E9], [B3], H⟩ (yd (X := X) S75 33 V5 7 1 false (.one .top (.int .i64 x4.err_)) (some 10)) ?_
  refine yr 1 ⟨[E4, E2, E6, E7, E8, E9, E5], [B3], H⟩ ?_
  exact ye
  rcases if_inv hF with ⟨h6, hF⟩ | ⟨h6, hF⟩
  refine yT h6 ⟨[E4, E2], [B3], H⟩ ?_
  refine w_seq ?_
  refine w_regD (.take 0 (.take 1 (.take 2 (.take 3 (.take 4 (.last 5 (.take 6 .done))))))) (by kernel_rfl) (⟨[E2, E10], [B3], H⟩ : St) ?_ ?_
  refine ydt ⟨[E4, E2, E11], [B3], H⟩ ?_
  refine ydt ⟨[E4, E2, E11, E12], [B3], H⟩ ?_
  refine ydt ⟨[E4, E2, E11, E12, E13], [B3], H⟩ ?_
  refine ydt S76 ?_
  refine d_take ⟨[E4, E2, E11, E12, E13, E14, E15], [B3], H⟩ (yd (X := X) S76 33 V5 7 1 false (.one .top (.int .i64 x4.err_)) (some 16)) ?_
  refine ydl ⟨[E4, E2, E16, E12, E13, E14, E15], [B3], H⟩ ?_
  refine ydt ⟨[E4, E2, E10, E16, E12, E13, E14, E15], [B3], H⟩ ?_
  exact yde
  refine w_ret ?_
  obtain ⟨e0, e1, e2⟩ := some3_inv hF
  subst e0
  subst e1
  subst e2
  exact yi (.tup [.agg [((.own 1), .sl 1 (List.map (eI .u32) ([] : List Int))), ((.own 1), .sl 4 (List.map e_api_Fixup ([] : List T_api_Fixup))), ((.own 1), .sl 2 (List.map e_api_Segment ([] : List T_api_Segment)))], .one .top (.int .i64 x4.err_)])
  refine yF h6 ⟨[E4, E2], [B3], H⟩ ?_
  refine w_skip ?_
  refine w_seq ?_
  obtain ⟨i8, h10, hF⟩ := bnd_inv hF
  let E17 : EN := (4, .one .top (.obj i8 0))
  let E37 : EN := (48, .one .top (.obj i8 0))
  let E62 : EN := (67, .one .top (.obj i8 0))
  obtain ⟨H7, h9, hF⟩ := bnd_inv hF
  let S77 : St := ⟨[E4, E2, E17, E22, E23, E24], [B3], H7⟩
  refine w_regO ⟨[E4, E2, E17], [B3], H7⟩ ?_ ?_
  refine yr 1 ⟨[E4, E2, (17, .agg [((.own 1), .sl 2 (List.map e_api_Segment ([] : List T_api_Segment)))])], [B3], H⟩ ?_
  refine o_one ⟨[E4, E2, E18, (18, .one .top (.obj H.length 0))], [B3], (H ++ [[((.own 1), .sl 2 (List.map e_api_Segment ([] : List T_api_Segment)))]])⟩ (by kernel_rfl) ?_
  refine o_eq (congr2 (fun q u => (⟨[E4, E2, E18, (18, .one .top (.obj q 0))], [B3], u⟩ : St)) h10 h9) ?_
  refine yr 1 ⟨[E4, E2, E17, E18, (18, .one .top (.obj i8 0))], [B3], H7⟩ ?_
  exact ye
  refine w_seq ?_
  refine w_seq ?_
  obtain ⟨x11, V12, hF⟩ := bind1_inv hF
  replace V12 := hgetT_inv V12
  obtain ⟨r13, c14, hF⟩ := bind1_inv hF
  let E19 : EN := (22, .one (.own 1) (.sl 2 (List.map e_api_Segment r13)))
  let E20 : EN := (23, .one .top (.int .i64 (r13.length : Int)))
  let S78 : St := ⟨[E4, E2, E17, E22, E23, E24, E19], [B3], H7⟩
  refine w_regO ⟨[E4, E2, E17, E19, E20, E21], [B3], H7⟩ ?_ ?_
  refine yr 2 ⟨[E4, E2, E17, E22, E23], [B3], H7⟩ ?_
  refine yr 1 S77 ?_
  refine o_one S78 (yc (some 22) true false S77 (ok_ranges_Builder_List H7 c14)) ?_
  refine o_one ⟨[E4, E2, E17, E22, E23, E24, E19, E20], [B3], H7⟩ (yl S78 r13 e_api_Segment (some 23)) ?_
  refine yr 1 ⟨[E4, E2, E17, E22, E23, E24, E19, E20, E21], [B3], H7⟩ ?_
  exact ye
  refine w_block ?_
  obtain ⟨r29, hL30, hF⟩ := bind1_inv hF
  refine w_loop (fun (x : (Int × Heap)) => (⟨[E4, E2, E17, E19, E20, (24, .one .top (.int .i64 x.1))], [B3], x.2⟩ : St)) (fun (y : (Heap)) => ((.exit 0, (⟨[E4, E2, E17], [B3], y⟩ : St)) : Ex × St)) hL30 (by kernel_rfl) ?_ ?_
  rintro ⟨a15, H16⟩ o hF
  replace hF : emit_Code_Finish_L1 r13 i1 o2 i8 a15 H16 = some o := hF
  let E25 : EN := (24, .one .top (.int .i64 a15))
  let S79 : St := ⟨[E4, E2, E17, E19, E20, E25], [B3], H16⟩
  let S83 : St := ⟨[E4, E2, E17], [B3], H16⟩
  unfold emit_Code_Finish_L1 at hF
  refine ysg ⟨[E4, E2, E17, E19, E20, E25, (25, .one .top (.bool (decide (a15 < (r13.length : Int)))))], [B3], H16⟩ ?_
  refine w_seq ?_
  rcases if_inv hF with ⟨h17, hF⟩ | ⟨h17, hF⟩
  refine yT h17 S79 ?_
  refine w_skip ?_
  refine w_seq ?_
  refine w_block ?_
  refine w_seq ?_
  obtain ⟨x18, h19, hF⟩ := bind1_inv hF
  let B27 : EB := (6, [(.top, .int .i64 x18.Start_), (.top, .int .i64 x18.Pad_)])
  let E28 : EN := (26, .one .top (.rd .bl (.own 0) [.int .i64 x18.Start_, .int .i64 x18.Pad_] 0))
  let E31 : EN := (29, .one .top (.int .i64 x18.Start_))
  let E49 : EN := (44, .one .top (.int .i64 x18.Pad_))
  let S80 : St := ⟨[E4, E2, E17, E26, E19, E20, E25], [B3, B27], H16⟩
  let S81 : St := ⟨[E4, E2, E17, E26, E19, E20, E25, E30, E31, E32, E33, E34], [B3, B27], H16⟩
  let S85 : St := ⟨[E4, E2, E17, E26, E19, E20, E25, E44, E45, E46], [B3, B27], H16⟩
  refine w_regO S80 ?_ ?_
  refine o_one ⟨[E4, E2, E17, E19, E20, E25, E28], [B3], H16⟩ (st_ix (X := X) S79 129 170 2 h19 e_api_Segment (.own 1) (some 26) (by kernel_rfl) (by kernel_rfl) (by kernel_rfl) (by kernel_rfl)) ?_
  refine yr 3 ⟨[E4, E2, E17, E26, E19, E20, E25, E28, (27, .agg [(.top, .int .i64 x18.Start_), (.top, .int .i64 x18.Pad_)])], [B3, B27], H16⟩ ?_
  exact ye
  refine w_seq ?_
  refine w_seq ?_
  obtain ⟨x20, V21, hF⟩ := bind1_inv hF
  replace V21 := hgetT_inv V21
  let E29 : EN := (35, .one .top (.bool (decide (x18.Start_ ≥ (x20.words_.length : Int)))))
  let E35 : EN := (33, .one .bh (.sl 1 (List.map (eI .u32) x20.words_)))
  let E36 : EN := (34, .one .top (.int .i64 (x20.words_.length : Int)))
  let E47 : EN := (42, .one .bh (.sl 1 (List.map (eI .i64) x20.pads_)))
  let S82 : St := ⟨[E4, E2, E17, E26, E19, E20, E25, E30, E31, E32, E33, E34, E35], [B3, B27], H16⟩
  let S86 : St := ⟨[E4, E2, E17, E26, E19, E20, E25, E44, E45, E46, E47, E48, E49], [B3, B27], H16⟩
  refine w_regD (.take 0 (.take 1 (.take 2 (.take 3 (.take 4 (.take 5 (.take 6 (.take 7 .done)))))))) (by kernel_rfl) (⟨[E4, E2, E17, E26, E19, E20, E25, E29], [B3, B27], H16⟩ : St) ?_ ?_
  refine ydt ⟨[E4, E2, E17, E26, E19, E20, E25, E30], [B3, B27], H16⟩ ?_
  refine ydt ⟨[E4, E2, E17, E26, E19, E20, E25, E30, E31], [B3, B27], H16⟩ ?_
  refine ydt ⟨[E4, E2, E17, E26, E19, E20, E25, E30, E31, E32], [B3, B27], H16⟩ ?_
  refine ydt ⟨[E4, E2, E17, E26, E19, E20, E25, E30, E31, E32, E33], [B3, B27], H16⟩ ?_
  refine ydt S81 ?_
  refine d_take S82 (yd (X := X) S81 42 V21 0 1 false (.one .bh (.sl 1 (List.map (eI .u32) x20.words_))) (some 33)) ?_
  refine d_take ⟨[E4, E2, E17, E26, E19, E20, E25, E30, E31, E32, E33, E34, E35, E36], [B3, B27], H16⟩ (yl S82 x20.words_ (eI .u32) (some 34)) ?_
  refine ydt ⟨[E4, E2, E17, E26, E19, E20, E25, E30, E31, E32, E33, E34, E35, E36, E29], [B3, B27], H16⟩ ?_
  exact yde
  rcases if_inv hF with ⟨h22, hF⟩ | ⟨h22, hF⟩
  refine yT h22 S83 ?_
  refine w_exit ?_
  refine e_out rfl ?_
  cases hF
  exact ⟨_, rfl, (by kernel_rfl)⟩
  refine yF h22 S80 ?_
  refine w_skip ?_
  refine w_seq ?_
  refine ysg ⟨[E4, E2, E17, E26, E19, E20, E25, (38, .one .top (.bool (x18.Pad_ != (-1))))], [B3, B27], H16⟩ ?_
  refine w_join (α := (T_api_Segment)) (fun x => (⟨[E4, E2, E17, E26, E19, E20, E25], [B3, (6, [(.top, .int .i64 x.Start_), (.top, .int .i64 x.Pad_)])], H16⟩ : St)) (fun x => emit_Code_Finish_j2 H16 i8 a15 x = some o) ?_ ?_
  rintro j23 hF
  replace hF : emit_Code_Finish_j2 H16 i8 a15 j23 = some o := hF
  let E39 : EN := (50, .one .top (.int .i64 j23.Start_))
  let E41 : EN := (52, .one .top (.int .i64 j23.Pad_))
  let B42 : EB := (6, [(.top, .int .i64 j23.Start_), (.top, .int .i64 j23.Pad_)])
  let S84 : St := ⟨[E4, E2, E17, E26, E19, E20, E25, E37, E38, E39, E40, E41], [B3, B42], H16⟩
  unfold emit_Code_Finish_j2 at hF
  obtain ⟨H25, c24, hF⟩ := bind1_inv hF
  refine w_regO ⟨[E4, E2, E17, E19, E20, E25], [B3], H25⟩ ?_ ?_
  refine yr 5 S84 ?_
  refine o_one ⟨[E4, E2, E17, E26, E19, E20, E25, E37, E38, E39, E40, E41, (53, .tup [])], [B3, B42], H25⟩ (yc (some 53) false false S84 (ok_ranges_Builder_Mark H16 c24)) ?_
  exact ye
  refine yg ⟨[E4, E2, E17, E19, E20, (24, .one .top (.int .i64 (IntKind.wrap .i64 (a15 + 1))))], [B3], H25⟩ ?_
  cases hF
  exact ⟨_, rfl, (by kernel_rfl)⟩
  rcases if_inv hF with ⟨h26, hF⟩ | ⟨h26, hF⟩
  refine yT h26 S80 ?_
  obtain ⟨x27, h28, hF⟩ := bind1_inv hF
  let B43 : EB := (6, [(.top, .int .i64 x18.Start_), (.top, .int .i64 x27)])
  let E50 : EN := (45, .one .top (.rd .bh .bh [.int .i64 x27] 0))
  let E51 : EN := (46, .one .top (.int .i64 x27))
  refine w_regD (.take 0 (.take 1 (.take 2 (.take 3 (.take 4 (.last 5 (.take 6 (.take 7 (.take 8 (.last 9 .done)))))))))) (by kernel_rfl) (⟨[E4, E2, E17, E26, E19, E20, E25], [B3, B43], H16⟩ : St) ?_ ?_
  refine ydt ⟨[E4, E2, E17, E26, E19, E20, E25, E44], [B3, B27], H16⟩ ?_
  refine ydt ⟨[E4, E2, E17, E26, E19, E20, E25, E44, E45], [B3, B27], H16⟩ ?_
  refine ydt S85 ?_
  refine d_take ⟨[E4, E2, E17, E26, E19, E20, E25, E44, E45, E46, E47], [B3, B27], H16⟩ (yd (X := X) S85 27 V21 3 1 false (.one .bh (.sl 1 (List.map (eI .i64) x20.pads_))) (some 42)) ?_
  refine ydt ⟨[E4, E2, E17, E26, E19, E20, E25, E44, E45, E46, E47, E48], [B3, B27], H16⟩ ?_
  refine ydl S86 ?_
  refine d_take ⟨[E4, E2, E17, E26, E19, E20, E25, E44, E45, E46, E47, E48, E49, E50], [B3, B27], H16⟩ (st_ix (X := X) S86 27 3 1 h28 (eI .i64) .bh (some 45) (by kernel_rfl) (by kernel_rfl) (by kernel_rfl) (by kernel_rfl)) ?_
  refine ydt ⟨[E4, E2, E17, E26, E19, E20, E25, E44, E45, E46, E47, E48, E49, E50, E51], [B3, B27], H16⟩ ?_
  refine ydt ⟨[E4, E2, E17, E26, E19, E20, E25, E44, E45, E46, E47, E48, E49, E50, E51, (47, .one .top (.loc 6 1))], [B3, B27], H16⟩ ?_
  refine ydl ⟨[E4, E2, E17, E26, E19, E20, E25, E44, E45, E46, E47, E48, E49, E50, E51, (47, .one .top (.loc 6 1))], [B3, B43], H16⟩ ?_
  exact yde
  exact ⟨(T_api_Segment.mk x18.Start_ x27), hF, (by kernel_rfl)⟩
  refine yF h26 S80 ?_
  refine w_skip ?_
  exact ⟨x18, hF, (by kernel_rfl)⟩
  refine yF h17 S83 ?_
  refine w_exit ?_
  cases hF
  exact ⟨_, rfl, (by kernel_rfl)⟩
  obtain ⟨H31, hy⟩ : ∃ y, y = r29 := ⟨_, rfl⟩
  subst hy
  let S87 : St := ⟨[E4, E2, E17, E54, E55, E56], [B3], H31⟩
  refine w_oe (i := 0) (s := (⟨[E4, E2, E17], [B3], H31⟩ : St)) (by kernel_rfl) ?_
  refine e_here ?_
  refine w_seq ?_
  obtain ⟨x32, V33, hF⟩ := bind1_inv hF
  replace V33 := hgetT_inv V33
  let E57 : EN := (59, .one .bh (.sl 1 (List.map (eI .u32) x32.words_)))
  let E61 : EN := (65, .one .bh (.sl 4 (List.map e_api_Fixup x32.fixups_)))
  let S88 : St := ⟨[E4, E2, E17, E54, E55, E56, E57, E58, E59, E60], [B3], H31⟩
  let S96 : St := ⟨[E4, E2, E17, E69, E54, E55, E56, E57, E71, E58, E59, E60, E61, E62], [B3], H31⟩
  let S97 : St := ⟨[E4, E2, E17, E63, E54, E55, E56, E57, E71, E58, E59, E60, E61, E62], [B3], H31⟩
  obtain ⟨v34, h35, hF⟩ := bind1_inv hF
  let E70 : EN := (60, .one (.own 1) (.sl 1 (List.map (eI .u32) v34)))
  let S90 : St := ⟨[E4, E2, E17, E63, E54, E55, E56, E57, E70, E71, E58, E59, E60, E61, E62], [B3], H31⟩
  let S92 : St := ⟨[E4, E2, E17, E63, E54, E55, E56, E57, E70, E65, E58, E59, E60, E61, E62], [B3], H31⟩
  obtain ⟨v36, h37, hF⟩ := bind1_inv hF
  let E72 : EN := (66, .one (.own 1) (.sl 4 (List.map e_api_Fixup v36)))
  let S91 : St := ⟨[E4, E2, E17, E63, E54, E55, E56, E57, E70, E65, E58, E59, E60, E61, E72, E62], [B3], H31⟩
  obtain ⟨r38, c39, hF⟩ := bind1_inv hF
  let B53 : EB := (2, [((.own 1), .sl 1 (List.map (eI .u32) v34)), ((.own 1), .sl 4 (List.map e_api_Fixup v36)), ((.own 1), .sl 2 (List.map e_api_Segment r38))])
  let E73 : EN := (68, .one (.own 1) (.sl 2 (List.map e_api_Segment r38)))
  let E74 : EN := (69, .agg [((.own 1), .sl 1 (List.map (eI .u32) v34)), ((.own 1), .sl 4 (List.map e_api_Fixup v36)), ((.own 1), .sl 2 (List.map e_api_Segment r38))])
  let S89 : St := ⟨[E4, E2, E52, E17, E63, E54, E55, E56, E57, E64, E65, E58, E59, E60, E61, E66, E62, E67, E68], [B53], H31⟩
  let S93 : St := ⟨[E4, E2, E17, E63, E54, E55, E56, E57, E70, E65, E58, E59, E60, E61, E72, E62, E73], [B3], H31⟩
  let S94 : St := ⟨[E4, E2, E17, E63, E54, E55, E56, E57, E64, E65, E58, E59, E60, E61, E66, E62, E67, E74], [B3], H31⟩
  let S95 : St := ⟨[E4, E2, E17, E63, E54, E55, E56, E57, E64, E65, E58, E59, E60, E61, E66, E62, E67, E68], [B53], H31⟩
  let K98 : Sch := .last 5 (.last 11 (.last 13 (.take 14 (.last 15 (.take 16 .done)))))
  refine w_regD (.take 1 (.take 2 (.take 3 (.take 4 (.take 7 (.take 8 (.take 9 (.take 10 (.take 12 (.alt 0 (.alt 5 (.last 6 (.last 11 (.last 13 (.take 14 (.last 15 (.take 16 .done)))))) (.last 6 K98)) (.last 6 (.last 0 K98)))))))))))) (by kernel_rfl) (⟨[E2, E52], [B53], H31⟩ : St) ?_ ?_
  refine ydt ⟨[E4, E2, E17, E54], [B3], H31⟩ ?_
  refine ydt ⟨[E4, E2, E17, E54, E55], [B3], H31⟩ ?_
  refine ydt S87 ?_
  refine d_take ⟨[E4, E2, E17, E54, E55, E56, E57], [B3], H31⟩ (yd (X := X) S87 42 V33 0 1 false (.one .bh (.sl 1 (List.map (eI .u32) x32.words_))) (some 59)) ?_
  refine ydt ⟨[E4, E2, E17, E54, E55, E56, E57, E58], [B3], H31⟩ ?_
  refine ydt ⟨[E4, E2, E17, E54, E55, E56, E57, E58, E59], [B3], H31⟩ ?_
  refine ydt S88 ?_
  refine d_take ⟨[E4, E2, E17, E54, E55, E56, E57, E58, E59, E60, E61], [B3], H31⟩ (yd (X := X) S88 128 V33 1 1 false (.one .bh (.sl 4 (List.map e_api_Fixup x32.fixups_))) (some 65)) ?_
  refine ydt ⟨[E4, E2, E17, E54, E55, E56, E57, E58, E59, E60, E61, E62], [B3], H31⟩ ?_
  refine q_in S89 ?_ ?_
  refine q_alt ⟨[E4, E2, E17, E69, E54, E55, E56, E57, E58, E59, E60, E61, E62], [B3], H31⟩ (by kernel_rfl) ?_ ?_
  refine q_alt ⟨[E4, E2, E17, E63, E54, E55, E56, E57, E70, E58, E59, E60, E61, E62], [B3], H31⟩ (st_app (X := X) (⟨[E4, E2, E17, E63, E54, E55, E56, E57, E58, E59, E60, E61, E62], [B3], H31⟩ : St) 4 h35 42 42 35 1 0 [(.top, .int .u32 0)] .bh (eI .u32) 9 (some 60) (by kernel_rfl) (by kernel_rfl) (by kernel_rfl) (by kernel_rfl) (by kernel_rfl) (by kernel_rfl) (by kernel_rfl) (by kernel_rfl) (depth_flat rfl fun _ => rfl) (fun _ => rfl) (by kernel_rfl)) ?_ ?_
  refine yql S90 ?_
  refine q_last S91 (st_app (X := X) S92 32 h37 128 128 135 4 0 (List.replicate 4 (.top, .int .i64 0)) .bh e_api_Fixup 9 (some 66) (by kernel_rfl) (by kernel_rfl) (by kernel_rfl) (by kernel_rfl) (by kernel_rfl) (by kernel_rfl) (by kernel_rfl) (by kernel_rfl) (depth_flat rfl fun _ => rfl) (fun _ => rfl) (by kernel_rfl)) ?_
  refine q_last S93 (yc (some 68) true false S91 (ok_ranges_Builder_List H31 c39)) ?_
  refine yqt S94 ?_
  refine yql S95 ?_
  refine yqt S89 ?_
  exact yqe
  refine yql S96 ?_
  refine q_last S90 (st_app (X := X) S97 4 h35 42 42 35 1 0 [(.top, .int .u32 0)] .bh (eI .u32) 9 (some 60) (by kernel_rfl) (by kernel_rfl) (by kernel_rfl) (by kernel_rfl) (by kernel_rfl) (by kernel_rfl) (by kernel_rfl) (by kernel_rfl) (depth_flat rfl fun _ => rfl) (fun _ => rfl) (by kernel_rfl)) ?_
  refine q_last S91 (st_app (X := X) S92 32 h37 128 128 135 4 0 (List.replicate 4 (.top, .int .i64 0)) .bh e_api_Fixup 9 (some 66) (by kernel_rfl) (by kernel_rfl) (by kernel_rfl) (by kernel_rfl) (by kernel_rfl) (by kernel_rfl) (by kernel_rfl) (by kernel_rfl) (depth_flat rfl fun _ => rfl) (fun _ => rfl) (by kernel_rfl)) ?_
  refine q_last S93 (yc (some 68) true false S91 (ok_ranges_Builder_List H31 c39)) ?_
  refine yqt S94 ?_
  refine yql S95 ?_
  refine yqt S89 ?_
  exact yqe
  refine yql ⟨[E4, E2, E17, E54, E55, E56, E57, E71, E58, E59, E60, E61, E62], [B3], H31⟩ ?_
  refine yql S96 ?_
  refine q_last S90 (st_app (X := X) S97 4 h35 42 42 35 1 0 [(.top, .int .u32 0)] .bh (eI .u32) 9 (some 60) (by kernel_rfl) (by kernel_rfl) (by kernel_rfl) (by kernel_rfl) (by kernel_rfl) (by kernel_rfl) (by kernel_rfl) (by kernel_rfl) (depth_flat rfl fun _ => rfl) (fun _ => rfl) (by kernel_rfl)) ?_
  refine q_last S91 (st_app (X := X) S92 32 h37 128 128 135 4 0 (List.replicate 4 (.top, .int .i64 0)) .bh e_api_Fixup 9 (some 66) (by kernel_rfl) (by kernel_rfl) (by kernel_rfl) (by kernel_rfl) (by kernel_rfl) (by kernel_rfl) (by kernel_rfl) (by kernel_rfl) (depth_flat rfl fun _ => rfl) (fun _ => rfl) (by kernel_rfl)) ?_
  refine q_last S93 (yc (some 68) true false S91 (ok_ranges_Builder_List H31 c39)) ?_
  refine yqt S94 ?_
  refine yql S95 ?_
  refine yqt S89 ?_
  exact yqe
  kernel_rfl
  refine w_ret ?_
  obtain ⟨e0, e1, e2⟩ := some3_inv hF
  subst e0
  subst e1
  subst e2
  exact yi (.tup [.agg [((.own 1), .sl 1 (List.map (eI .u32) v34)), ((.own 1), .sl 4 (List.map e_api_Fixup v36)), ((.own 1), .sl 2 (List.map e_api_Segment r38))], .one .top (.int .i64 0)])
noncomputable def law19_ended_j2 (a18 : (List Int)) (x21 : T_api_Fixup) (a19 : Int) (j25 : Int) : Option (((List Int) × Int) ⊕ (((List Int)) ⊕ Unit)) :=
  bind1 (gi a18 x21.At_) fun x26 =>
  bind1 (gi a18 x21.At_) fun x28 =>
  bind1 (si a18 x21.At_ (bitsOf .or .u32 x26 (IntKind.wrap .u32 (Int.fdiv j25 (2 ^ 16))))) fun v30 =>
  bind1 (gi v30 (IntKind.wrap .i64 (x21.At_ + 1))) fun x32 =>
  bind1 (gi v30 (IntKind.wrap .i64 (x21.At_ + 1))) fun x34 =>
  bind1 (si v30 (IntKind.wrap .i64 (x21.At_ + 1)) (bitsOf .or .u32 x32 (IntKind.wrap .u32 (bitsOf .and .i64 j25 65535)))) fun v36 =>
  some (Sum.inl (v36, (IntKind.wrap .i64 (a19 + 1))))
noncomputable def law19_ended_L1 (r11 : T_emit_Result) (p1 : Int) (a18 : (List Int)) (a19 : Int) : Option (((List Int) × Int) ⊕ (((List Int)) ⊕ Unit)) :=
  if (decide (a19 < (r11.Fixups_.length : Int))) = true then (bind1 (gi r11.Fixups_ a19) fun x21 =>
  if ((decide (x21.At_ < 0)) || (decide ((IntKind.wrap .i64 (x21.At_ + 1)) ≥ (a18.length : Int)))) = true then (some (Sum.inr (Sum.inr ())))
  else (if (x21.Kind_ == 4) = true then (law19_ended_j2 a18 x21 a19 (IntKind.wrap .i64 ((IntKind.wrap .i64 (4 * (a18.length : Int))) + p1)))
  else (law19_ended_j2 a18 x21 a19 (IntKind.wrap .i64 ((IntKind.wrap .i64 (4 * (a18.length : Int))) + x21.Value_)))))
  else (some (Sum.inr (Sum.inl a18)))
noncomputable def law19_ended (H : Heap) (p0 : Ptr) (p1 : Int) : Option (Heap × (List Int) × Bool) :=
  (p0).bnd fun i1 o2 =>
  bind1 (get_item_Gen H i1 o2) fun x4 =>
  bind2 (emit_Code_Reg H x4.Code_ 1 0) fun H8 r6 =>
  bind1 (get_item_Gen H8 i1 o2) fun x9 =>
  bind3 (emit_Code_Finish H8 x9.Code_) fun H14 r11 r12 =>
  if (r12 != 0) = true then (some (H14, ([] : List Int), false))
  else (bind1 (app 4 ([] : List Int) r11.Words_) fun v16 =>
  bind1 (loopO (fun (x : ((List Int) × Int)) => law19_ended_L1 r11 p1 x.1 x.2) (v16, 0)) (sum2 (fun b41 =>
  some (H14, b41, true)) (fun (_ : Unit) =>
  some (H14, ([] : List Int), false))))
theorem ok_law19_ended (H : Heap) {p0 : Ptr} {p1 : Int} {ra : (List Int)} {rb : Bool} {Hr : Heap} (hF : law19_ended H p0 p1 = some (Hr, ra, rb)) : evS X 22 [.one .top (Ptr.av p0), .one .top (.int .i64 p1)] H = some (.tup [.one (.own 1) (.sl 1 (List.map (eI .u32) ra)), .one .top (.bool rb)], Hr) := by
  let E1 : Ptr → EN := fun z0 => (0, .one .top (Ptr.av z0))
  let E2 : EN := (1, .one .top (.int .i64 p1))
  let E7 : EN := (6, .one .top (.loc 6 0))
  let E13 : EN := (4, .one (.own 1) (.sl 1 (List.map (eI .u32) ([] : List Int))))
  let E14 : EN := (5, .one .top (.bool false))
  let E16 : EN := (28, .one .top (.loc 6 0))
  let E18 : EN := (27, .one .top .junk)
  let E23 : EN := (32, .one .top (.loc 6 1))
  let E26 : EN := (10, .one .top (.loc 10 0))
  let E28 : EN := (38, .one .top (.loc 6 1))
  let E32 : EN := (43, .one .top (.loc 10 0))
  let E34 : EN := (45, .one .top (.bool false))
  let E35 : EN := (46, .one .top (.bool false))
  let E36 : EN := (47, .one .top (.loc 10 0))
  let E47 : EN := (69, .one .top (.loc 10 0))
  let E50 : EN := (72, .one .top (.loc 10 0))
  let E61 : EN := (82, .one .top (.loc 10 0))
  let E65 : EN := (86, .one .top (.loc 10 0))
  let S78 : Ptr → St := fun z0 => ⟨[(E1 z0), E2], [], H⟩
  refine yf Try.func22 false (S78 p0) ?_
  unfold law19_ended at hF
  refine ysg (S78 p0) ?_ (h := (by generalize p0 = qp0; cases qp0 <;> kernel_rfl))
  refine w_seq ?_
  obtain ⟨i1, o2, h3, hF⟩ := pbnd_inv hF
  let E3 : EN := (0, .one .top (.obj i1 o2))
  let E4 : EN := (12, .one .top (.obj i1 o2))
  let E5 : EN := (13, .one .top (.obj i1 o2))
  let E6 : EN := (14, .one .top (.obj i1 o2))
  let E10 : EN := (18, .one .top (.obj i1 o2))
  let E11 : EN := (19, .one .top (.obj i1 o2))
  let E12 : EN := (20, .one .top (.obj i1 o2))
  let S79 : St := ⟨[E3, E2, E4, E5, E6], [], H⟩
  obtain ⟨x4, V5, hF⟩ := bind1_inv hF
  replace V5 := hgetT_inv V5
  obtain ⟨H8, r6, c7, hF⟩ := bind2_inv hF
  let S80 : St := ⟨[E3, E2, E10, E11, E12], [], H8⟩
  refine w_regO ⟨[E3, E2], [], H8⟩ ?_ ?_
  refine yr 1 ⟨[(E1 p0), E2, (12, .one .top (Ptr.av p0))], [], H⟩ ?_ (h := (by generalize p0 = qp0; cases qp0 <;> kernel_rfl))
  refine o_eq (congrArg (fun q => (⟨[(0, .one .top (Ptr.av q)), E2, (12, .one .top (Ptr.av q))], [], H⟩ : St)) h3) ?_
  refine yr 1 ⟨[E3, E2, E4, E5], [], H⟩ ?_
  refine yr 1 S79 ?_ (h := (by generalize x4.Code_ = qp0; generalize x4.Proc_.frame_ = qp1; cases qp0 <;> cases qp1 <;> kernel_rfl))
  refine o_one ⟨[E3, E2, E4, E5, E6, (15, .one .top (Ptr.av x4.Code_))], [], H⟩ (yd (X := X) S79 26 V5 0 1 false (.one .top (Ptr.av x4.Code_)) (some 15) (hs := (by generalize x4.Code_ = qp0; generalize x4.Proc_.frame_ = qp1; cases qp0 <;> cases qp1 <;> kernel_rfl))) ?_
  refine o_one ⟨[E3, E2, E4, E5, E6, (15, .one .top (Ptr.av x4.Code_)), (16, .one .top (.int .i64 r6))], [], H8⟩ (st_call (d := (some 16)) (fz := false) (pure := false) (own := false) (⟨[E3, E2, E4, E5, E6, (15, .one .top (Ptr.av x4.Code_))], [], H⟩ : St) (ok_emit_Code_Reg H c7) (by generalize x4.Code_ = qp0; generalize x4.Proc_.frame_ = qp1; cases qp0 <;> cases qp1 <;> kernel_rfl) (by generalize x4.Code_ = qp0; generalize x4.Proc_.frame_ = qp1; cases qp0 <;> cases qp1 <;> kernel_rfl)) ?_
  exact ye
  refine w_seq ?_
  obtain ⟨x9, V10, hF⟩ := bind1_inv hF
  replace V10 := hgetT_inv V10
  obtain ⟨H14, r11, r12, c13, hF⟩ := bind3_inv hF
  let E8 : EN := (7, .one .top (.int .i64 r12))
  let B9 : EB := (6, (m0_emit_Result r11))
  let E17 : EN := (29, .one .bl (.sl 1 (List.map (eI .u32) r11.Words_)))
  let E24 : EN := (33, .one .bl (.sl 4 (List.map e_api_Fixup r11.Fixups_)))
  let E25 : EN := (34, .one .top (.int .i64 (r11.Fixups_.length : Int)))
  let E29 : EN := (39, .one .bl (.sl 4 (List.map e_api_Fixup r11.Fixups_)))
  let S81 : St := ⟨[E13, E14], [], H14⟩
  refine w_regO ⟨[E2, E7, E8], [B9], H14⟩ ?_ ?_
  refine yr 2 ⟨[E3, E2, E10, E11], [], H8⟩ ?_
  refine yr 1 S80 ?_ (h := (by generalize x9.Code_ = qp0; generalize x9.Proc_.frame_ = qp1; cases qp0 <;> cases qp1 <;> kernel_rfl))
  refine o_one ⟨[E3, E2, E10, E11, E12, (21, .one .top (Ptr.av x9.Code_))], [], H8⟩ (yd (X := X) S80 26 V10 0 1 false (.one .top (Ptr.av x9.Code_)) (some 21) (hs := (by generalize x9.Code_ = qp0; generalize x9.Proc_.frame_ = qp1; cases qp0 <;> cases qp1 <;> kernel_rfl))) ?_
  refine o_one ⟨[E3, E2, E10, E11, E12, (21, .one .top (Ptr.av x9.Code_)), (22, .tup [.agg (m0_emit_Result r11), .one .top (.int .i64 r12)])], [], H14⟩ (st_call (d := (some 22)) (fz := false) (pure := false) (own := false) (⟨[E3, E2, E10, E11, E12, (21, .one .top (Ptr.av x9.Code_))], [], H8⟩ : St) (ok_emit_Code_Finish H8 c13) (by generalize x9.Code_ = qp0; generalize x9.Proc_.frame_ = qp1; cases qp0 <;> cases qp1 <;> kernel_rfl) (by generalize x9.Code_ = qp0; generalize x9.Proc_.frame_ = qp1; cases qp0 <;> cases qp1 <;> kernel_rfl)) ?_
  refine yr 6 ⟨[E3, E2, E7, E8, (17, .tup [.agg [(.top, .junk), (.top, .junk), (.top, .junk)], .one .top (.int .i64 r12)]), E10, E11, E12, (21, .one .top (Ptr.av x9.Code_)), (22, .tup [.agg [(.top, .junk), (.top, .junk), (.top, .junk)], .one .top (.int .i64 r12)]), (23, .agg [(.top, .junk), (.top, .junk), (.top, .junk)]), (24, .one .top (.int .i64 r12))], [B9], H14⟩ ?_ (h := (by generalize x9.Code_ = qp0; cases qp0 <;> kernel_rfl))
  exact ye
  refine w_seq ?_
  refine ysg ⟨[E2, E7, (26, .one .top (.bool (r12 != 0)))], [B9], H14⟩ ?_
  rcases if_inv hF with ⟨h15, hF⟩ | ⟨h15, hF⟩
  refine yT h15 ⟨[], [], H14⟩ ?_
  refine ysg S81 ?_
  refine w_ret ?_
  obtain ⟨e0, e1, e2⟩ := some3_inv hF
  subst e0
  subst e1
  subst e2
  exact yi (.tup [.one (.own 1) (.sl 1 (List.map (eI .u32) ([] : List Int))), .one .top (.bool false)])
  refine yF h15 ⟨[E2, E7], [B9], H14⟩ ?_
  refine w_skip ?_
  refine w_seq ?_
  obtain ⟨v16, h17, hF⟩ := bind1_inv hF
  let E15 : EN := (8, .one (.own 1) (.sl 1 (List.map (eI .u32) v16)))
  refine w_regO ⟨[E2, E7, E15], [B9], H14⟩ ?_ ?_
  refine yr 3 ⟨[E2, E7, (27, .one (.own 1) (.sl 1 (List.map (eI .u32) ([] : List Int)))), E16, E17], [B9], H14⟩ ?_
  refine o_one ⟨[E2, E7, E18, E16, E17, (30, .one (.own 1) (.sl 1 (List.map (eI .u32) v16)))], [B9], H14⟩ (st_app (X := X) (⟨[E2, E7, E18, E16, E17], [B9], H14⟩ : St) 4 h17 42 42 35 1 0 [(.top, .int .u32 0)] .bl (eI .u32) 9 (some 30) (by kernel_rfl) (by kernel_rfl) (by kernel_rfl) (by kernel_rfl) (by kernel_rfl) (by kernel_rfl) (by kernel_rfl) (by kernel_rfl) (depth_flat rfl fun _ => rfl) (fun _ => rfl) (by kernel_rfl)) ?_
  refine yr 1 ⟨[E2, E7, E15, E18, E16, E17, (30, .one .top .junk)], [B9], H14⟩ ?_
  exact ye
  refine w_seq ?_
  refine ysg ⟨[E2, E7, E15, (9, .one .top (.int .i64 0))], [B9], H14⟩ ?_
  refine w_block ?_
  obtain ⟨r39, hL40, hF⟩ := bind1_inv hF
  refine w_loop (fun (x : ((List Int) × Int)) => (⟨[E2, E7, (8, .one (.own 1) (.sl 1 (List.map (eI .u32) x.1))), (9, .one .top (.int .i64 x.2))], [B9], H14⟩ : St)) (Sum.elim (fun (y : ((List Int))) => ((.exit 0, (⟨[(8, .one (.own 1) (.sl 1 (List.map (eI .u32) y)))], [], H14⟩ : St)) : Ex × St)) (fun (y : Unit) => ((.ret, S81) : Ex × St))) hL40 (by kernel_rfl) ?_ ?_
  rintro ⟨a18, a19⟩ o hF
  replace hF : law19_ended_L1 r11 p1 a18 a19 = some o := hF
  let E19 : EN := (8, .one (.own 1) (.sl 1 (List.map (eI .u32) a18)))
  let E20 : EN := (9, .one .top (.int .i64 a19))
  let E21 : EN := (35, .one .top (.bool (decide (a19 < (r11.Fixups_.length : Int)))))
  let E22 : EN := (31, .one .top (.int .i64 a19))
  let E30 : EN := (40, .one .top (.int .i64 a19))
  let E39 : EN := (50, .one .bl (.sl 1 (List.map (eI .u32) a18)))
  let E40 : EN := (51, .one .top (.int .i64 (a18.length : Int)))
  let E42 : EN := (54, .one .bl (.sl 1 (List.map (eI .u32) a18)))
  let E43 : EN := (55, .one .top (.int .i64 (a18.length : Int)))
  let E46 : EN := (68, .one .top (.at_ (.tmp 8) 0 ((List.map (eI .u32) a18).length)))
  let E49 : EN := (71, .one .bl (.sl 1 (List.map (eI .u32) a18)))
  let E75 : EN := (11, .one .top (.int .i64 (IntKind.wrap .i64 ((IntKind.wrap .i64 (4 * (a18.length : Int))) + p1))))
  let E76 : EN := (63, .one .bl (.sl 1 (List.map (eI .u32) a18)))
  let E77 : EN := (64, .one .top (.int .i64 (a18.length : Int)))
  let S82 : St := ⟨[E2, E7, E19, E20, E22, E23, E24], [B9], H14⟩
  let S84 : St := ⟨[E2, E7, E19, E20, E28, E29, E30], [B9], H14⟩
  unfold law19_ended_L1 at hF
  refine w_seq ?_
  refine yso ⟨[E2, E7, E19, E20, E21], [B9], H14⟩ ?_ ?_
  refine yr 3 S82 ?_
  refine o_one ⟨[E2, E7, E19, E20, E22, E23, E24, E25], [B9], H14⟩ (yl S82 r11.Fixups_ e_api_Fixup (some 34)) ?_
  refine yr 1 ⟨[E2, E7, E19, E20, E22, E23, E24, E25, E21], [B9], H14⟩ ?_
  exact ye
  rcases if_inv hF with ⟨h20, hF⟩ | ⟨h20, hF⟩
  refine yT h20 ⟨[E2, E7, E19, E20], [B9], H14⟩ ?_
  refine w_skip ?_
  refine w_seq ?_
  refine w_block ?_
  refine w_seq ?_
  obtain ⟨x21, h22, hF⟩ := bind1_inv hF
  let B27 : EB := (10, (m0_api_Fixup x21))
  let E31 : EN := (41, .one .top (.rd .bl .bl [.int .i64 x21.At_, .int .i64 x21.Kind_, .int .i64 x21.Module_, .int .i64 x21.Value_] 0))
  let E33 : EN := (44, .one .top (.int .i64 x21.At_))
  let E37 : EN := (48, .one .top (.int .i64 x21.At_))
  let E38 : EN := (49, .one .top (.int .i64 (IntKind.wrap .i64 (x21.At_ + 1))))
  let E41 : EN := (11, .one .top (.int .i64 (IntKind.wrap .i64 ((IntKind.wrap .i64 (4 * (a18.length : Int))) + x21.Value_))))
  let E48 : EN := (70, .one .top (.int .i64 x21.At_))
  let E51 : EN := (73, .one .top (.int .i64 x21.At_))
  let E58 : EN := (80, .one .top (.el (.tmp 8) (Int.toNat x21.At_) 0))
  let E62 : EN := (83, .one .top (.int .i64 x21.At_))
  let E63 : EN := (84, .one .top (.int .i64 (IntKind.wrap .i64 (x21.At_ + 1))))
  let E66 : EN := (87, .one .top (.int .i64 x21.At_))
  let E67 : EN := (88, .one .top (.int .i64 (IntKind.wrap .i64 (x21.At_ + 1))))
  let E74 : EN := (95, .one .top (.el (.tmp 8) (Int.toNat (IntKind.wrap .i64 (x21.At_ + 1))) 0))
  let S83 : St := ⟨[E2, E7, E19, E20, E26], [B9, B27], H14⟩
  let S85 : St := ⟨[E2, E7, E19, E20, E26, E32, E33, E34, E35, E36, E37, E38, E39], [B9, B27], H14⟩
  let S86 : St := ⟨[E2, E7, E19, E20, E26, E41], [B9, B27], H14⟩
  let S87 : St := ⟨[E2, E7, E19, E20, E26, E42], [B9, B27], H14⟩
  let S94 : St := ⟨[E2, E7, E19, E20, E26, E76], [B9, B27], H14⟩
  refine w_regO S83 ?_ ?_
  refine yr 3 S84 ?_
  refine o_one ⟨[E2, E7, E19, E20, E28, E29, E30, E31], [B9], H14⟩ (st_ix (X := X) S84 128 135 4 h22 e_api_Fixup .bl (some 41) (by kernel_rfl) (by kernel_rfl) (by kernel_rfl) (by kernel_rfl)) ?_
  refine yr 3 ⟨[E2, E7, E19, E20, E26, E28, E29, E30, E31, (42, .agg (m0_api_Fixup x21))], [B9, B27], H14⟩ ?_
  exact ye
  refine w_seq ?_
  refine yso ⟨[E2, E7, E19, E20, E26, (53, .one .top (.bool ((decide (x21.At_ < 0)) || (decide ((IntKind.wrap .i64 (x21.At_ + 1)) ≥ (a18.length : Int))))))], [B9, B27], H14⟩ ?_ ?_
  refine yr 4 ⟨[E2, E7, E19, E20, E26, E32, E33, (45, .one .top (.bool (decide (x21.At_ < 0)))), (46, .one .top (.bool (decide (x21.At_ < 0))))], [B9, B27], H14⟩ ?_
  rcases bool_cases (decide (x21.At_ < 0)) with h23 | h23
  refine o_eq (congrArg (fun q => (⟨[E2, E7, E19, E20, E26, E32, E33, (45, .one .top (.bool q)), (46, .one .top (.bool q))], [B9, B27], H14⟩ : St)) h23) ?_
  refine yr 7 ⟨[E2, E7, E19, E20, E26, E32, E33, (45, .one .top (.bool true)), (46, .one .top (.bool true)), (47, .tup []), (48, .tup []), (49, .tup []), (50, .tup []), (51, .tup []), (52, .tup []), (53, .one .top (.bool true))], [B9, B27], H14⟩ ?_
  refine o_eq2 (congrArg (fun q0 => (⟨[E2, E7, E19, E20, E26, (53, .one .top (.bool q0))], [B9, B27], H14⟩ : St)) (show true = ((decide (x21.At_ < 0)) || (decide ((IntKind.wrap .i64 (x21.At_ + 1)) ≥ (a18.length : Int)))) by simp [h23])) ?_
  exact ye
  refine o_eq (congrArg (fun q => (⟨[E2, E7, E19, E20, E26, E32, E33, (45, .one .top (.bool q)), (46, .one .top (.bool q))], [B9, B27], H14⟩ : St)) h23) ?_
  refine yr 4 S85 ?_
  refine o_one ⟨[E2, E7, E19, E20, E26, E32, E33, E34, E35, E36, E37, E38, E39, E40], [B9, B27], H14⟩ (yl S85 a18 (eI .u32) (some 51)) ?_
  refine yr 2 ⟨[E2, E7, E19, E20, E26, E32, E33, E34, E35, E36, E37, E38, E39, E40, (52, .one .top (.bool (decide ((IntKind.wrap .i64 (x21.At_ + 1)) ≥ (a18.length : Int))))), (53, .one .top (.bool (decide ((IntKind.wrap .i64 (x21.At_ + 1)) ≥ (a18.length : Int)))))], [B9, B27], H14⟩ ?_
  refine o_eq2 (congrArg (fun q0 => (⟨[E2, E7, E19, E20, E26, (53, .one .top (.bool q0))], [B9, B27], H14⟩ : St)) (show (decide ((IntKind.wrap .i64 (x21.At_ + 1)) ≥ (a18.length : Int))) = ((decide (x21.At_ < 0)) || (decide ((IntKind.wrap .i64 (x21.At_ + 1)) ≥ (a18.length : Int)))) by simp [h23])) ?_
  exact ye
  rcases if_inv hF with ⟨h24, hF⟩ | ⟨h24, hF⟩
  refine yT h24 ⟨[], [], H14⟩ ?_
  refine ysg S81 ?_
  refine w_ret ?_
  cases hF
  exact ⟨_, rfl, (by kernel_rfl)⟩
  refine yF h24 S83 ?_
  refine w_skip ?_
  refine yso S86 ?_ ?_
  refine yr 1 S87 ?_
  refine o_one ⟨[E2, E7, E19, E20, E26, E42, E43], [B9, B27], H14⟩ (yl S87 a18 (eI .u32) (some 55)) ?_
  refine yr 5 ⟨[E2, E7, E19, E20, E26, E41, E42, E43, (56, .one .top (.int .i64 (IntKind.wrap .i64 (4 * (a18.length : Int))))), (57, .one .top (.loc 10 3)), (58, .one .top (.int .i64 x21.Value_)), (59, .one .top (.int .i64 (IntKind.wrap .i64 ((IntKind.wrap .i64 (4 * (a18.length : Int))) + x21.Value_))))], [B9, B27], H14⟩ ?_
  exact ye
  refine w_seq ?_
  refine ysg ⟨[E2, E7, E19, E20, E26, E41, (62, .one .top (.bool (x21.Kind_ == 4)))], [B9, B27], H14⟩ ?_
  refine w_join (α := (Int)) (fun x => (⟨[E2, E7, E19, E20, E26, (11, .one .top (.int .i64 x))], [B9, B27], H14⟩ : St)) (fun x => law19_ended_j2 a18 x21 a19 x = some o) ?_ ?_
  rintro j25 hF
  replace hF : law19_ended_j2 a18 x21 a19 j25 = some o := hF
  let E45 : EN := (11, .one .top (.int .i64 j25))
  let E53 : EN := (76, .one .top (.int .i64 j25))
  let E54 : EN := (77, .one .top (.int .i64 (Int.fdiv j25 (2 ^ 16))))
  let E55 : EN := (78, .one .top (.int .u32 (IntKind.wrap .u32 (Int.fdiv j25 (2 ^ 16)))))
  let E69 : EN := (91, .one .top (.int .i64 j25))
  let E70 : EN := (92, .one .top (.int .i64 (bitsOf .and .i64 j25 65535)))
  let E71 : EN := (93, .one .top (.int .u32 (IntKind.wrap .u32 (bitsOf .and .i64 j25 65535))))
  let S88 : St := ⟨[E2, E7, E19, E20, E26, E45, E46, E47, E48, E49, E50, E51], [B9, B27], H14⟩
  unfold law19_ended_j2 at hF
  refine w_seq ?_
  obtain ⟨x26, h27, hF⟩ := bind1_inv hF
  let E52 : EN := (74, .one .top (.rd .bl .bl [.int .u32 x26] 0))
  let E56 : EN := (75, .one .top (.int .u32 x26))
  let E57 : EN := (79, .one .top (.int .u32 (bitsOf .or .u32 x26 (IntKind.wrap .u32 (Int.fdiv j25 (2 ^ 16))))))
  let S89 : St := ⟨[E2, E7, E19, E20, E26, E45, E46, E47, E48, E49, E50, E51, E52, E56, E53, E54, E55, E57], [B9, B27], H14⟩
  let S90 : St := ⟨[E2, E7, E19, E20, E26, E45, E46, E47, E48, E49, E50, E51, E52, E56, E53, E54, E55, E57, E58], [B9, B27], H14⟩
  obtain ⟨x28, h29, hF⟩ := bind1_inv hF
  obtain ⟨v30, h31, hF⟩ := bind1_inv hF
  let E44 : EN := (8, .one (.own 1) (.sl 1 (List.map (eI .u32) v30)))
  let E60 : EN := (81, .one .top (.at_ (.tmp 8) 0 ((List.map (eI .u32) v30).length)))
  let E64 : EN := (85, .one .bl (.sl 1 (List.map (eI .u32) v30)))
  let S91 : St := ⟨[E2, E7, E44, E20, E26, E45, E60, E61, E62, E63, E64, E65, E66, E67], [B9, B27], H14⟩
  refine w_regD (.take 0 (.take 1 (.take 2 (.take 3 (.take 4 (.take 5 (.take 6 (.take 8 (.take 9 (.take 10 (.last 7 (.take 11 (.take 12 (.last 13 .done)))))))))))))) (by kernel_rfl) (⟨[E2, E7, E44, E20, E26, E45], [B9, B27], H14⟩ : St) ?_ ?_
  refine ydt ⟨[E2, E7, E19, E20, E26, E45, E46], [B9, B27], H14⟩ ?_
  refine ydt ⟨[E2, E7, E19, E20, E26, E45, E46, E47], [B9, B27], H14⟩ ?_
  refine ydt ⟨[E2, E7, E19, E20, E26, E45, E46, E47, E48], [B9, B27], H14⟩ ?_
  refine ydt ⟨[E2, E7, E19, E20, E26, E45, E46, E47, E48, E49], [B9, B27], H14⟩ ?_
  refine ydt ⟨[E2, E7, E19, E20, E26, E45, E46, E47, E48, E49, E50], [B9, B27], H14⟩ ?_
  refine ydt S88 ?_
  refine d_take ⟨[E2, E7, E19, E20, E26, E45, E46, E47, E48, E49, E50, E51, E52], [B9, B27], H14⟩ (st_ix (X := X) S88 42 35 1 h27 (eI .u32) .bl (some 74) (by kernel_rfl) (by kernel_rfl) (by kernel_rfl) (by kernel_rfl)) ?_
  refine ydt ⟨[E2, E7, E19, E20, E26, E45, E46, E47, E48, E49, E50, E51, E52, E53], [B9, B27], H14⟩ ?_
  refine ydt ⟨[E2, E7, E19, E20, E26, E45, E46, E47, E48, E49, E50, E51, E52, E53, E54], [B9, B27], H14⟩ ?_
  refine ydt ⟨[E2, E7, E19, E20, E26, E45, E46, E47, E48, E49, E50, E51, E52, E53, E54, E55], [B9, B27], H14⟩ ?_
  refine ydl ⟨[E2, E7, E19, E20, E26, E45, E46, E47, E48, E49, E50, E51, E52, E56, E53, E54, E55], [B9, B27], H14⟩ ?_
  refine ydt S89 ?_
  refine d_take S90 (st_ixA (X := X) S89 42 35 1 h29 (eI .u32) (.tmp 8) 0 (List.map (eI .u32) a18).length 0 (some 80) (by kernel_rfl) (by kernel_rfl) (by kernel_rfl) (by kernel_rfl) rfl (List.length_map _) (by kernel_rfl)) ?_
  refine d_last ⟨[E2, E7, E44, E20, E26, E45, E46, E47, E48, (71, .one .top .junk), E50, E51, (74, .one .top .junk), E56, E53, E54, E55, E57, E58], [B9, B27], H14⟩ (st_stE (X := X) S90 (⟨[E2, E7, E44, E20, E26, E45, E46, E47, E48, E49, E50, E51, E52, E56, E53, E54, E55, E57, E58], [B9, B27], H14⟩ : St) ⟨true, [6, 10]⟩ 35 (.tmp 8) (Int.toNat x21.At_) 0 1 0 (List.map (eI .u32) a18) [.int .u32 x28] ((eI .u32) (bitsOf .or .u32 x26 (IntKind.wrap .u32 (Int.fdiv j25 (2 ^ 16))))) (List.map (eI .u32) v30) 1 (.one .top (.int .u32 (bitsOf .or .u32 x26 (IntKind.wrap .u32 (Int.fdiv j25 (2 ^ 16)))))) (by kernel_rfl) (by kernel_rfl) (by kernel_rfl) (by kernel_rfl) (by kernel_rfl) (by kernel_rfl) (el_at h29) (by kernel_rfl) (by kernel_rfl) (el_put h31) (by kernel_rfl) (by kernel_rfl)) ?_
  exact yde
  obtain ⟨x32, h33, hF⟩ := bind1_inv hF
  let E68 : EN := (89, .one .top (.rd .bl .bl [.int .u32 x32] 0))
  let E72 : EN := (90, .one .top (.int .u32 x32))
  let E73 : EN := (94, .one .top (.int .u32 (bitsOf .or .u32 x32 (IntKind.wrap .u32 (bitsOf .and .i64 j25 65535)))))
  let S92 : St := ⟨[E2, E7, E44, E20, E26, E45, E60, E61, E62, E63, E64, E65, E66, E67, E68, E72, E69, E70, E71, E73], [B9, B27], H14⟩
  let S93 : St := ⟨[E2, E7, E44, E20, E26, E45, E60, E61, E62, E63, E64, E65, E66, E67, E68, E72, E69, E70, E71, E73, E74], [B9, B27], H14⟩
  obtain ⟨x34, h35, hF⟩ := bind1_inv hF
  obtain ⟨v36, h37, hF⟩ := bind1_inv hF
  let E59 : EN := (8, .one (.own 1) (.sl 1 (List.map (eI .u32) v36)))
  refine w_regD (.take 0 (.take 1 (.take 2 (.take 3 (.take 4 (.take 5 (.take 6 (.take 7 (.take 8 (.take 10 (.take 11 (.take 12 (.last 9 (.take 13 (.take 14 (.last 15 .done)))))))))))))))) (by kernel_rfl) (⟨[E2, E7, E59, E20], [B9], H14⟩ : St) ?_ ?_
  refine ydt ⟨[E2, E7, E44, E20, E26, E45, E60], [B9, B27], H14⟩ ?_
  refine ydt ⟨[E2, E7, E44, E20, E26, E45, E60, E61], [B9, B27], H14⟩ ?_
  refine ydt ⟨[E2, E7, E44, E20, E26, E45, E60, E61, E62], [B9, B27], H14⟩ ?_
  refine ydt ⟨[E2, E7, E44, E20, E26, E45, E60, E61, E62, E63], [B9, B27], H14⟩ ?_
  refine ydt ⟨[E2, E7, E44, E20, E26, E45, E60, E61, E62, E63, E64], [B9, B27], H14⟩ ?_
  refine ydt ⟨[E2, E7, E44, E20, E26, E45, E60, E61, E62, E63, E64, E65], [B9, B27], H14⟩ ?_
  refine ydt ⟨[E2, E7, E44, E20, E26, E45, E60, E61, E62, E63, E64, E65, E66], [B9, B27], H14⟩ ?_
  refine ydt S91 ?_
  refine d_take ⟨[E2, E7, E44, E20, E26, E45, E60, E61, E62, E63, E64, E65, E66, E67, E68], [B9, B27], H14⟩ (st_ix (X := X) S91 42 35 1 h33 (eI .u32) .bl (some 89) (by kernel_rfl) (by kernel_rfl) (by kernel_rfl) (by kernel_rfl)) ?_
  refine ydt ⟨[E2, E7, E44, E20, E26, E45, E60, E61, E62, E63, E64, E65, E66, E67, E68, E69], [B9, B27], H14⟩ ?_
  refine ydt ⟨[E2, E7, E44, E20, E26, E45, E60, E61, E62, E63, E64, E65, E66, E67, E68, E69, E70], [B9, B27], H14⟩ ?_
  refine ydt ⟨[E2, E7, E44, E20, E26, E45, E60, E61, E62, E63, E64, E65, E66, E67, E68, E69, E70, E71], [B9, B27], H14⟩ ?_
  refine ydl ⟨[E2, E7, E44, E20, E26, E45, E60, E61, E62, E63, E64, E65, E66, E67, E68, E72, E69, E70, E71], [B9, B27], H14⟩ ?_
  refine ydt S92 ?_
  refine d_take S93 (st_ixA (X := X) S92 42 35 1 h35 (eI .u32) (.tmp 8) 0 (List.map (eI .u32) v30).length 0 (some 95) (by kernel_rfl) (by kernel_rfl) (by kernel_rfl) (by kernel_rfl) rfl (List.length_map _) (by kernel_rfl)) ?_
  refine d_last ⟨[E2, E7, E59, E20, E26, E45, E60, E61, E62, E63, (85, .one .top .junk), E65, E66, E67, (89, .one .top .junk), E72, E69, E70, E71, E73, E74], [B9, B27], H14⟩ (st_stE (X := X) S93 (⟨[E2, E7, E59, E20, E26, E45, E60, E61, E62, E63, E64, E65, E66, E67, E68, E72, E69, E70, E71, E73, E74], [B9, B27], H14⟩ : St) ⟨true, [6, 10]⟩ 35 (.tmp 8) (Int.toNat (IntKind.wrap .i64 (x21.At_ + 1))) 0 1 0 (List.map (eI .u32) v30) [.int .u32 x34] ((eI .u32) (bitsOf .or .u32 x32 (IntKind.wrap .u32 (bitsOf .and .i64 j25 65535)))) (List.map (eI .u32) v36) 1 (.one .top (.int .u32 (bitsOf .or .u32 x32 (IntKind.wrap .u32 (bitsOf .and .i64 j25 65535))))) (by kernel_rfl) (by kernel_rfl) (by kernel_rfl) (by kernel_rfl) (by kernel_rfl) (by kernel_rfl) (el_at h35) (by kernel_rfl) (by kernel_rfl) (el_put h37) (by kernel_rfl) (by kernel_rfl)) ?_
  exact yde
  refine yg ⟨[E2, E7, E59, (9, .one .top (.int .i64 (IntKind.wrap .i64 (a19 + 1))))], [B9], H14⟩ ?_
  cases hF
  exact ⟨_, rfl, (by kernel_rfl)⟩
  rcases if_inv hF with ⟨h38, hF⟩ | ⟨h38, hF⟩
  refine yT h38 S83 ?_
  refine w_regO ⟨[E2, E7, E19, E20, E26, E75], [B9, B27], H14⟩ ?_ ?_
  refine yr 1 S94 ?_
  refine o_one ⟨[E2, E7, E19, E20, E26, E76, E77], [B9, B27], H14⟩ (yl S94 a18 (eI .u32) (some 64)) ?_
  refine yr 4 ⟨[E2, E7, E19, E20, E26, E75, E76, E77, (65, .one .top (.int .i64 (IntKind.wrap .i64 (4 * (a18.length : Int))))), (66, .one .top (.int .i64 p1)), (67, .one .top (.int .i64 (IntKind.wrap .i64 ((IntKind.wrap .i64 (4 * (a18.length : Int))) + p1))))], [B9, B27], H14⟩ ?_
  exact ye
  exact ⟨(IntKind.wrap .i64 ((IntKind.wrap .i64 (4 * (a18.length : Int))) + p1)), hF, (by kernel_rfl)⟩
  refine yF h38 S86 ?_
  refine w_skip ?_
  exact ⟨(IntKind.wrap .i64 ((IntKind.wrap .i64 (4 * (a18.length : Int))) + x21.Value_)), hF, (by kernel_rfl)⟩
  refine yF h20 ⟨[E19], [], H14⟩ ?_
  refine w_exit ?_
  cases hF
  exact ⟨_, rfl, (by kernel_rfl)⟩
  rcases sum2_inv hF with ⟨r39', rfl, hF⟩ | ⟨r39', rfl, hF⟩
  obtain ⟨b41, hy⟩ : ∃ y, y = r39' := ⟨_, rfl⟩
  subst hy
  refine w_oe (i := 0) (s := (⟨[(8, .one (.own 1) (.sl 1 (List.map (eI .u32) b41)))], [], H14⟩ : St)) (by kernel_rfl) ?_
  refine e_here ?_
  refine ysg ⟨[(4, .one (.own 1) (.sl 1 (List.map (eI .u32) b41))), (5, .one .top (.bool true))], [], H14⟩ ?_
  refine w_ret ?_
  obtain ⟨e0, e1, e2⟩ := some3_inv hF
  subst e0
  subst e1
  subst e2
  exact yi (.tup [.one (.own 1) (.sl 1 (List.map (eI .u32) b41)), .one .top (.bool true)])
  refine w_or (s := S81) (by kernel_rfl) ?_
  obtain ⟨e0, e1, e2⟩ := some3_inv hF
  subst e0
  subst e1
  subst e2
  exact yi (.tup [.one (.own 1) (.sl 1 (List.map (eI .u32) ([] : List Int))), .one .top (.bool false)])
noncomputable def ref03_New  (p0 : (Arr 5 Int)) : Option (T_ref03_Mem) :=
  bind1 (mks 4 (IntKind.wrap .u32 (Int.tdiv (p0.g 4) 4)) (IntKind.wrap .u32 (Int.tdiv (p0.g 4) 4)) 0) fun v1 =>
  some (T_ref03_Mem.mk p0 v1)
theorem ok_ref03_New (H : Heap) {p0 : (Arr 5 Int)} {ra : T_ref03_Mem} (hF : ref03_New p0 = some ra) : evS X 79 [.agg (arM .u32 5 p0)] H = some (.agg (m0_ref03_Mem ra), H) := by
  let E1 : EN := (1, .one .top (.loc 1 0))
  let E2 : EN := (2, .one .top (.loc 2 0))
  let B3 : EB := (1, (arM .u32 5 p0))
  let B4 : EB := (2, (List.replicate 5 (.top, .int .u32 0) ++ [((.own 1), .sl 1 (List.map (eI .u32) ([] : List Int)))]))
  let E6 : EN := (3, .agg (arM .u32 5 p0))
  let E7 : EN := (4, .one .top (.loc 1 4))
  let E8 : EN := (5, .one .top (.int .u32 (p0.g 4)))
  let E9 : EN := (6, .one .top (.int .u32 (IntKind.wrap .u32 (Int.tdiv (p0.g 4) 4))))
  let S10 : St := ⟨[E1, E2, E6, E7, E8, E9], [B3, B4], H⟩
  refine yf Try.func79 true ⟨[(0, .agg (arM .u32 5 p0))], [], H⟩ ?_
  unfold ref03_New at hF
  refine ysg ⟨[E1, E2], [B3, B4], H⟩ ?_
  refine w_seq ?_
  obtain ⟨v1, h2, hF⟩ := bind1_inv hF
  let B5 : EB := (2, (arM .u32 5 p0 ++ [((.own 1), .sl 1 (List.map (eI .u32) v1))]))
  refine w_regD (.take 0 (.take 1 (.take 2 (.take 3 (.last 4 (.take 5 (.last 6 .done))))))) (by kernel_rfl) (⟨[E2], [B5], H⟩ : St) ?_ ?_
  refine ydt ⟨[E1, E2, E6], [B3, B4], H⟩ ?_
  refine ydt ⟨[E1, E2, E6, E7], [B3, B4], H⟩ ?_
  refine ydt ⟨[E1, E2, E6, E7, E8], [B3, B4], H⟩ ?_
  refine ydt S10 ?_
  refine d_last ⟨[E1, E2, E6, E7, E8, E9, (7, .one (.own 1) (.sl 1 (List.map (eI .u32) v1)))], [B3, B4], H⟩ (st_mk (X := X) S10 4 h2 42 35 1 [(.top, .int .u32 0)] (eI .u32) 0 (.u32) (.u32) (some 7) (by kernel_rfl) (by kernel_rfl) (by kernel_rfl) (by kernel_rfl) (by kernel_rfl) (by kernel_rfl) (by kernel_rfl) (by kernel_rfl) (by kernel_rfl) (by kernel_rfl)) ?_
  refine ydt ⟨[E1, E2, E6, E7, E8, E9, (7, .one .top .junk), (8, .agg (arM .u32 5 p0 ++ [((.own 1), .sl 1 (List.map (eI .u32) v1))]))], [B3, B4], H⟩ ?_
  refine ydl ⟨[E1, E2, E6, E7, E8, E9, (7, .one .top .junk), (8, .agg (arM .u32 5 p0 ++ [(.top, .junk)]))], [B3, B5], H⟩ ?_
  exact yde
  refine w_ret ?_
  obtain e0 := some1_inv hF
  subst e0
  exact yp (.agg (arM .u32 5 p0 ++ [((.own 1), .sl 1 (List.map (eI .u32) v1))]))
noncomputable def ref03_with_L1 (p2 : (List Int)) (p1 : Int) (a5 : (List Int)) (a6 : Int) : Option (((List Int) × Int) ⊕ (((List Int)))) :=
  if (decide (a6 < (p2.length : Int))) = true then (bind1 (gi p2 a6) fun x8 =>
  bind1 (gi a5 (IntKind.wrap .i64 (p1 + a6))) fun x10 =>
  bind1 (si a5 (IntKind.wrap .i64 (p1 + a6)) x8) fun v12 =>
  some (Sum.inl (v12, (IntKind.wrap .i64 (a6 + 1)))))
  else (some (Sum.inr a5))
noncomputable def ref03_with  (p0 : T_ref03_Mem) (p1 : Int) (p2 : (List Int)) : Option (T_ref03_Mem) :=
  bind1 (mks 4 (p0.W_.length : Int) (p0.W_.length : Int) 0) fun v1 =>
  bnd (cpy v1 0 p0.W_) fun v3 =>
  bind1 (loopO (fun (x : ((List Int) × Int)) => ref03_with_L1 p2 p1 x.1 x.2) (v3, 0)) (fun b16 =>
  some (T_ref03_Mem.mk p0.Ends_ b16))
theorem ok_ref03_with (H : Heap) {p0 : T_ref03_Mem} {p1 : Int} {p2 : (List Int)} {ra : T_ref03_Mem} (hF : ref03_with p0 p1 p2 = some ra) : evS X 94 [.agg (m0_ref03_Mem p0), .one .top (.int .i64 p1), .one .ro (.sl 1 (List.map (eI .u32) p2))] H = some (.agg (m0_ref03_Mem ra), H) := by
  let E1 : EN := (1, .one .top (.int .i64 p1))
  let E2 : EN := (2, .one .ro (.sl 1 (List.map (eI .u32) p2)))
  let E3 : EN := (3, .one .top (.loc 3 0))
  let E4 : EN := (6, .one .top (.loc 6 0))
  let B5 : EB := (3, (m0_ref03_Mem p0))
  let B6 : EB := (6, (List.replicate 5 (.top, .int .u32 0) ++ [((.own 1), .sl 1 (List.map (eI .u32) ([] : List Int)))]))
  let E8 : EN := (9, .one .top (.loc 3 5))
  let E9 : EN := (10, .one (.own 0) (.sl 1 (List.map (eI .u32) p0.W_)))
  let E10 : EN := (11, .one .top (.int .i64 (p0.W_.length : Int)))
  let E13 : EN := (14, .one .top (.loc 3 5))
  let E14 : EN := (15, .one (.own 0) (.sl 1 (List.map (eI .u32) p0.W_)))
  let E19 : EN := (18, .one .ro (.sl 1 (List.map (eI .u32) p2)))
  let E20 : EN := (19, .one .top (.int .i64 (p2.length : Int)))
  let E23 : EN := (24, .one .top (.int .i64 p1))
  let E26 : EN := (27, .one .ro (.sl 1 (List.map (eI .u32) p2)))
  let S31 : St := ⟨[E1, E2, E3, E4, E8, E9], [B5, B6], H⟩
  let S32 : St := ⟨[E1, E2, E3, E4, E8, E9, E10], [B5, B6], H⟩
  refine yf Try.func94 true ⟨[(0, .agg (m0_ref03_Mem p0)), E1, E2], [], H⟩ ?_
  unfold ref03_with at hF
  refine ysg ⟨[E1, E2, E3, E4], [B5, B6], H⟩ ?_
  refine w_seq ?_
  obtain ⟨v1, h2, hF⟩ := bind1_inv hF
  let E7 : EN := (7, .one (.own 1) (.sl 1 (List.map (eI .u32) v1)))
  let E12 : EN := (13, .one .top (.at_ (.tmp 7) 0 ((List.map (eI .u32) v1).length)))
  let S33 : St := ⟨[E1, E2, E3, E4, E7, E12, E13, E14], [B5, B6], H⟩
  refine w_regO ⟨[E1, E2, E3, E4, E7], [B5, B6], H⟩ ?_ ?_
  refine yr 2 S31 ?_
  refine o_one S32 (yl S31 p0.W_ (eI .u32) (some 11)) ?_
  refine o_one ⟨[E1, E2, E3, E4, E8, E9, E10, (12, .one (.own 1) (.sl 1 (List.map (eI .u32) v1)))], [B5, B6], H⟩ (st_mk (X := X) S32 4 h2 42 35 1 [(.top, .int .u32 0)] (eI .u32) 0 (.i64) (.i64) (some 12) (by kernel_rfl) (by kernel_rfl) (by kernel_rfl) (by kernel_rfl) (by kernel_rfl) (by kernel_rfl) (by kernel_rfl) (by kernel_rfl) (by kernel_rfl) (by kernel_rfl)) ?_
  refine yr 1 ⟨[E1, E2, E3, E4, E7, E8, E9, E10, (12, .one .top .junk)], [B5, B6], H⟩ ?_
  exact ye
  refine w_seq ?_
  obtain ⟨v3, h4, hF⟩ := bnd_inv hF
  let E11 : EN := (7, .one (.own 1) (.sl 1 (List.map (eI .u32) v3)))
  refine w_regO ⟨[E1, E2, E3, E4, E11], [B5, B6], H⟩ ?_ ?_
  refine yr 3 S33 ?_
  refine o_one ⟨[E1, E2, E3, E4, E11, E12, E13, E14, (16, .one .top (.int .i64 (((min p0.W_.length (v1.length - 0) : Nat)) : Int)))], [B5, B6], H⟩ (st_cpT (X := X) S33 42 35 0 1 (eI .u32) 7 (.own 0) v1 p0.W_ 0 h4 (some 16) ⟨true, []⟩ (Nat.zero_le _) (by kernel_rfl) (by kernel_rfl) (by kernel_rfl) (fun _ => rfl) (fun _ => rfl) (by kernel_rfl) (by kernel_rfl)) ?_
  exact ye
  refine w_seq ?_
  refine ysg ⟨[E1, E2, E3, E4, E11, (8, .one .top (.int .i64 0))], [B5, B6], H⟩ ?_
  refine w_block ?_
  obtain ⟨r14, hL15, hF⟩ := bind1_inv hF
  refine w_loop (fun (x : ((List Int) × Int)) => (⟨[E1, E2, E3, E4, (7, .one (.own 1) (.sl 1 (List.map (eI .u32) x.1))), (8, .one .top (.int .i64 x.2))], [B5, B6], H⟩ : St)) (fun (y : ((List Int))) => ((.exit 0, (⟨[E3, E4, (7, .one (.own 1) (.sl 1 (List.map (eI .u32) y)))], [B5, B6], H⟩ : St)) : Ex × St)) hL15 (by kernel_rfl) ?_ ?_
  rintro ⟨a5, a6⟩ o hF
  replace hF : ref03_with_L1 p2 p1 a5 a6 = some o := hF
  let E15 : EN := (7, .one (.own 1) (.sl 1 (List.map (eI .u32) a5)))
  let E16 : EN := (8, .one .top (.int .i64 a6))
  let E17 : EN := (20, .one .top (.bool (decide (a6 < (p2.length : Int)))))
  let E18 : EN := (17, .one .top (.int .i64 a6))
  let E22 : EN := (23, .one .top (.at_ (.tmp 7) 0 ((List.map (eI .u32) a5).length)))
  let E24 : EN := (25, .one .top (.int .i64 a6))
  let E25 : EN := (26, .one .top (.int .i64 (IntKind.wrap .i64 (p1 + a6))))
  let E27 : EN := (28, .one .top (.int .i64 a6))
  let E30 : EN := (31, .one .top (.el (.tmp 7) (Int.toNat (IntKind.wrap .i64 (p1 + a6))) 0))
  let S34 : St := ⟨[E1, E2, E3, E4, E15, E16, E18, E19], [B5, B6], H⟩
  let S35 : St := ⟨[E1, E2, E3, E4, E15, E16, E22, E23, E24, E25, E26, E27], [B5, B6], H⟩
  unfold ref03_with_L1 at hF
  refine w_seq ?_
  refine yso ⟨[E1, E2, E3, E4, E15, E16, E17], [B5, B6], H⟩ ?_ ?_
  refine yr 2 S34 ?_
  refine o_one ⟨[E1, E2, E3, E4, E15, E16, E18, E19, E20], [B5, B6], H⟩ (yl S34 p2 (eI .u32) (some 19)) ?_
  refine yr 1 ⟨[E1, E2, E3, E4, E15, E16, E18, E19, E20, E17], [B5, B6], H⟩ ?_
  exact ye
  rcases if_inv hF with ⟨h7, hF⟩ | ⟨h7, hF⟩
  refine yT h7 ⟨[E1, E2, E3, E4, E15, E16], [B5, B6], H⟩ ?_
  refine w_skip ?_
  refine w_seq ?_
  refine w_block ?_
  obtain ⟨x8, h9, hF⟩ := bind1_inv hF
  let E28 : EN := (29, .one .top (.rd .ro .ro [.int .u32 x8] 0))
  let E29 : EN := (30, .one .top (.int .u32 x8))
  let S36 : St := ⟨[E1, E2, E3, E4, E15, E16, E22, E23, E24, E25, E26, E27, E28, E29], [B5, B6], H⟩
  let S37 : St := ⟨[E1, E2, E3, E4, E15, E16, E22, E23, E24, E25, E26, E27, E28, E29, E30], [B5, B6], H⟩
  obtain ⟨x10, h11, hF⟩ := bind1_inv hF
  obtain ⟨v12, h13, hF⟩ := bind1_inv hF
  let E21 : EN := (7, .one (.own 1) (.sl 1 (List.map (eI .u32) v12)))
  let S38 : St := ⟨[E1, E2, E3, E4, E21, E16, E22, E23, E24, E25, E26, E27, E28, E29, E30], [B5, B6], H⟩
  refine w_regO ⟨[E1, E2, E3, E4, E21, E16], [B5, B6], H⟩ ?_ ?_
  refine yr 6 S35 ?_
  refine o_one ⟨[E1, E2, E3, E4, E15, E16, E22, E23, E24, E25, E26, E27, E28], [B5, B6], H⟩ (st_ix (X := X) S35 42 35 1 h9 (eI .u32) .ro (some 29) (by kernel_rfl) (by kernel_rfl) (by kernel_rfl) (by kernel_rfl)) ?_
  refine yr 1 S36 ?_
  refine o_one S37 (st_ixA (X := X) S36 42 35 1 h11 (eI .u32) (.tmp 7) 0 (List.map (eI .u32) a5).length 0 (some 31) (by kernel_rfl) (by kernel_rfl) (by kernel_rfl) (by kernel_rfl) rfl (List.length_map _) (by kernel_rfl)) ?_
  refine o_one S38 (st_stE (X := X) S37 S38 ⟨true, []⟩ 35 (.tmp 7) (Int.toNat (IntKind.wrap .i64 (p1 + a6))) 0 1 0 (List.map (eI .u32) a5) [.int .u32 x10] ((eI .u32) x8) (List.map (eI .u32) v12) 1 (.one .top (.int .u32 x8)) (by kernel_rfl) (by kernel_rfl) (by kernel_rfl) (by kernel_rfl) (by kernel_rfl) (by kernel_rfl) (el_at h11) (by kernel_rfl) (by kernel_rfl) (el_put h13) (by kernel_rfl) (by kernel_rfl)) ?_
  exact ye
  refine yg ⟨[E1, E2, E3, E4, E21, (8, .one .top (.int .i64 (IntKind.wrap .i64 (a6 + 1))))], [B5, B6], H⟩ ?_
  cases hF
  exact ⟨_, rfl, (by kernel_rfl)⟩
  refine yF h7 ⟨[E3, E4, E15], [B5, B6], H⟩ ?_
  refine w_exit ?_
  cases hF
  exact ⟨_, rfl, (by kernel_rfl)⟩
  obtain ⟨b16, hy⟩ : ∃ y, y = r14 := ⟨_, rfl⟩
  subst hy
  refine w_oe (i := 0) (s := (⟨[E3, E4, (7, .one (.own 1) (.sl 1 (List.map (eI .u32) b16)))], [B5, B6], H⟩ : St)) (by kernel_rfl) ?_
  refine e_here ?_
  refine ysg ⟨[E3, E4], [(3, (arM .u32 5 p0.Ends_ ++ [((.own 1), .sl 1 (List.map (eI .u32) b16))])), B6], H⟩ ?_
  refine ysg ⟨[E4], [(6, (arM .u32 5 p0.Ends_ ++ [((.own 1), .sl 1 (List.map (eI .u32) b16))]))], H⟩ ?_
  refine w_ret ?_
  obtain e0 := some1_inv hF
  subst e0
  exact yp (.agg (arM .u32 5 p0.Ends_ ++ [((.own 1), .sl 1 (List.map (eI .u32) b16))]))
noncomputable def ref03_Fill  (p0 : T_ref03_Mem) (p1 : Int) (p2 : (List Int)) : Option (T_ref03_Mem × Int) :=
  if ((Int.tmod p1 4) != 0) = true then (some (p0, 30))
  else (if (decide ((IntKind.wrap .i64 ((IntKind.wrap .i64 (IntKind.wrap .u32 (Int.tdiv p1 4))) + (p2.length : Int))) > (p0.W_.length : Int))) = true then (some (p0, 31))
  else (bind1 (ref03_with p0 (IntKind.wrap .i64 (IntKind.wrap .u32 (Int.tdiv p1 4))) p2) fun r3 =>
  some (r3, 0)))
theorem ok_ref03_Fill (H : Heap) {p0 : T_ref03_Mem} {p1 : Int} {p2 : (List Int)} {ra : T_ref03_Mem} {rb : Int} (hF : ref03_Fill p0 p1 p2 = some (ra, rb)) : evS X 57 [.agg (m0_ref03_Mem p0), .one .top (.int .u32 p1), .one .ro (.sl 1 (List.map (eI .u32) p2))] H = some (.tup [.agg (m0_ref03_Mem ra), .one .top (.int .i64 rb)], H) := by
  let E1 : EN := (1, .one .top (.int .u32 p1))
  let E2 : EN := (2, .one .ro (.sl 1 (List.map (eI .u32) p2)))
  let E3 : EN := (3, .one .top (.loc 3 0))
  let E4 : EN := (6, .one .top (.loc 6 0))
  let B5 : EB := (3, (m0_ref03_Mem p0))
  let B6 : EB := (6, (List.replicate 5 (.top, .int .u32 0) ++ [((.own 1), .sl 1 (List.map (eI .u32) ([] : List Int)))]))
  let E7 : EN := (21, .one .top (.bool (decide ((IntKind.wrap .i64 ((IntKind.wrap .i64 (IntKind.wrap .u32 (Int.tdiv p1 4))) + (p2.length : Int))) > (p0.W_.length : Int)))))
  let E8 : EN := (12, .one .top (.int .u32 p1))
  let E9 : EN := (13, .one .top (.int .u32 (IntKind.wrap .u32 (Int.tdiv p1 4))))
  let E10 : EN := (14, .one .top (.int .i64 (IntKind.wrap .i64 (IntKind.wrap .u32 (Int.tdiv p1 4)))))
  let E11 : EN := (15, .one .ro (.sl 1 (List.map (eI .u32) p2)))
  let E12 : EN := (16, .one .top (.int .i64 (p2.length : Int)))
  let E13 : EN := (17, .one .top (.int .i64 (IntKind.wrap .i64 ((IntKind.wrap .i64 (IntKind.wrap .u32 (Int.tdiv p1 4))) + (p2.length : Int)))))
  let E14 : EN := (18, .one .top (.loc 3 5))
  let E15 : EN := (19, .one (.own 0) (.sl 1 (List.map (eI .u32) p0.W_)))
  let E16 : EN := (20, .one .top (.int .i64 (p0.W_.length : Int)))
  let E17 : EN := (7, .one .top (.int .i64 0))
  let E18 : EN := (23, .agg (m0_ref03_Mem p0))
  let E19 : EN := (24, .one .top (.int .u32 p1))
  let E20 : EN := (25, .one .top (.int .u32 (IntKind.wrap .u32 (Int.tdiv p1 4))))
  let E21 : EN := (26, .one .top (.int .i64 (IntKind.wrap .i64 (IntKind.wrap .u32 (Int.tdiv p1 4)))))
  let E22 : EN := (27, .one .ro (.sl 1 (List.map (eI .u32) p2)))
  let S24 : St := ⟨[E1, E2, E3, E4], [B5, B6], H⟩
  let S25 : St := ⟨[E3, E4], [B5, B6], H⟩
  let S26 : St := ⟨[E1, E2, E3, E4, E8, E9, E10, E11], [B5, B6], H⟩
  let S27 : St := ⟨[E1, E2, E3, E4, E8, E9, E10, E11, E12, E13, E14, E15], [B5, B6], H⟩
  let S28 : St := ⟨[E1, E2, E3, E4, E18, E19, E20, E21, E22], [B5, B6], H⟩
  refine yf Try.func57 true ⟨[(0, .agg (m0_ref03_Mem p0)), E1, E2], [], H⟩ ?_
  unfold ref03_Fill at hF
  refine ysg S24 ?_
  refine w_seq ?_
  refine ysg ⟨[E1, E2, E3, E4, (10, .one .top (.bool ((Int.tmod p1 4) != 0)))], [B5, B6], H⟩ ?_
  rcases if_inv hF with ⟨h1, hF⟩ | ⟨h1, hF⟩
  refine yT h1 S25 ?_
  refine ysg ⟨[E4, (7, .one .top (.int .i64 30))], [(6, (m0_ref03_Mem p0))], H⟩ ?_
  refine w_ret ?_
  obtain ⟨e0, e1⟩ := some2_inv hF
  subst e0
  subst e1
  exact yp (.tup [.agg (m0_ref03_Mem p0), .one .top (.int .i64 30)])
  refine yF h1 S24 ?_
  refine w_skip ?_
  refine w_seq ?_
  refine yso ⟨[E1, E2, E3, E4, E7], [B5, B6], H⟩ ?_ ?_
  refine yr 4 S26 ?_
  refine o_one ⟨[E1, E2, E3, E4, E8, E9, E10, E11, E12], [B5, B6], H⟩ (yl S26 p2 (eI .u32) (some 16)) ?_
  refine yr 3 S27 ?_
  refine o_one ⟨[E1, E2, E3, E4, E8, E9, E10, E11, E12, E13, E14, E15, E16], [B5, B6], H⟩ (yl S27 p0.W_ (eI .u32) (some 20)) ?_
  refine yr 1 ⟨[E1, E2, E3, E4, E8, E9, E10, E11, E12, E13, E14, E15, E16, E7], [B5, B6], H⟩ ?_
  exact ye
  rcases if_inv hF with ⟨h2, hF⟩ | ⟨h2, hF⟩
  refine yT h2 S25 ?_
  refine ysg ⟨[E4, (7, .one .top (.int .i64 31))], [(6, (m0_ref03_Mem p0))], H⟩ ?_
  refine w_ret ?_
  obtain ⟨e0, e1⟩ := some2_inv hF
  subst e0
  subst e1
  exact yp (.tup [.agg (m0_ref03_Mem p0), .one .top (.int .i64 31)])
  refine yF h2 S24 ?_
  refine w_skip ?_
  refine w_seq ?_
  obtain ⟨r3, c4, hF⟩ := bind1_inv hF
  let E23 : EN := (28, .agg (m0_ref03_Mem r3))
  refine w_regO ⟨[E4, E17], [(6, (m0_ref03_Mem r3))], H⟩ ?_ ?_
  refine yr 5 S28 ?_
  refine o_one ⟨[E1, E2, E3, E4, E18, E19, E20, E21, E22, E23], [B5, B6], H⟩ (yc (some 28) true false S28 (ok_ref03_with H c4)) ?_
  refine yr 2 ⟨[E1, E2, E3, E4, E17, E18, E19, E20, E21, E22, E23], [B5, (6, (m0_ref03_Mem r3))], H⟩ ?_
  exact ye
  refine w_ret ?_
  obtain ⟨e0, e1⟩ := some2_inv hF
  subst e0
  subst e1
  exact yp (.tup [.agg (m0_ref03_Mem r3), .one .top (.int .i64 0)])
noncomputable def ref03_Load  (p0 : T_ref03_Mem) (p1 : Int) : Option (Int × Int) :=
  if ((Int.tmod p1 4) != 0) = true then (some (0, 30))
  else (if (decide ((IntKind.wrap .i64 (IntKind.wrap .u32 (Int.tdiv p1 4))) ≥ (p0.W_.length : Int))) = true then (some (0, 31))
  else (bind1 (gi p0.W_ (IntKind.wrap .u32 (Int.tdiv p1 4))) fun x3 =>
  some (x3, 0)))
theorem ok_ref03_Load (H : Heap) {p0 : T_ref03_Mem} {p1 : Int} {ra : Int} {rb : Int} (hF : ref03_Load p0 p1 = some (ra, rb)) : evS X 39 [.agg (m0_ref03_Mem p0), .one .top (.int .u32 p1)] H = some (.tup [.one .top (.int .u32 ra), .one .top (.int .i64 rb)], H) := by
  let E1 : EN := (1, .one .top (.int .u32 p1))
  let E2 : EN := (2, .one .top (.loc 2 0))
  let B3 : EB := (2, (m0_ref03_Mem p0))
  let E4 : EN := (4, .one .top (.int .u32 0))
  let E5 : EN := (15, .one .top (.bool (decide ((IntKind.wrap .i64 (IntKind.wrap .u32 (Int.tdiv p1 4))) ≥ (p0.W_.length : Int)))))
  let E6 : EN := (9, .one .top (.int .u32 p1))
  let E7 : EN := (10, .one .top (.int .u32 (IntKind.wrap .u32 (Int.tdiv p1 4))))
  let E8 : EN := (11, .one .top (.int .i64 (IntKind.wrap .i64 (IntKind.wrap .u32 (Int.tdiv p1 4)))))
  let E9 : EN := (12, .one .top (.loc 2 5))
  let E10 : EN := (13, .one (.own 0) (.sl 1 (List.map (eI .u32) p0.W_)))
  let E11 : EN := (14, .one .top (.int .i64 (p0.W_.length : Int)))
  let E13 : EN := (5, .one .top (.int .i64 0))
  let E14 : EN := (16, .one .top (.loc 2 5))
  let E15 : EN := (17, .one (.own 0) (.sl 1 (List.map (eI .u32) p0.W_)))
  let E16 : EN := (18, .one .top (.int .u32 p1))
  let E17 : EN := (19, .one .top (.int .u32 (IntKind.wrap .u32 (Int.tdiv p1 4))))
  let S19 : St := ⟨[E1, E2], [B3], H⟩
  let S20 : St := ⟨[E1, E2, E6, E7, E8, E9, E10], [B3], H⟩
  let S21 : St := ⟨[E1, E2, E14, E15, E16, E17], [B3], H⟩
  refine yf Try.func39 true ⟨[(0, .agg (m0_ref03_Mem p0)), E1], [], H⟩ ?_
  unfold ref03_Load at hF
  refine ysg S19 ?_
  refine w_seq ?_
  refine ysg ⟨[E1, E2, (8, .one .top (.bool ((Int.tmod p1 4) != 0)))], [B3], H⟩ ?_
  rcases if_inv hF with ⟨h1, hF⟩ | ⟨h1, hF⟩
  refine yT h1 ⟨[], [], H⟩ ?_
  refine ysg ⟨[E4, (5, .one .top (.int .i64 30))], [], H⟩ ?_
  refine w_ret ?_
  obtain ⟨e0, e1⟩ := some2_inv hF
  subst e0
  subst e1
  exact yp (.tup [.one .top (.int .u32 0), .one .top (.int .i64 30)])
  refine yF h1 S19 ?_
  refine w_skip ?_
  refine w_seq ?_
  refine yso ⟨[E1, E2, E5], [B3], H⟩ ?_ ?_
  refine yr 5 S20 ?_
  refine o_one ⟨[E1, E2, E6, E7, E8, E9, E10, E11], [B3], H⟩ (yl S20 p0.W_ (eI .u32) (some 14)) ?_
  refine yr 1 ⟨[E1, E2, E6, E7, E8, E9, E10, E11, E5], [B3], H⟩ ?_
  exact ye
  rcases if_inv hF with ⟨h2, hF⟩ | ⟨h2, hF⟩
  refine yT h2 ⟨[], [], H⟩ ?_
  refine ysg ⟨[E4, (5, .one .top (.int .i64 31))], [], H⟩ ?_
  refine w_ret ?_
  obtain ⟨e0, e1⟩ := some2_inv hF
  subst e0
  subst e1
  exact yp (.tup [.one .top (.int .u32 0), .one .top (.int .i64 31)])
  refine yF h2 S19 ?_
  refine w_skip ?_
  refine w_seq ?_
  obtain ⟨x3, h4, hF⟩ := bind1_inv hF
  let E12 : EN := (4, .one .top (.int .u32 x3))
  let E18 : EN := (20, .one .top (.rd (.own 0) (.own 0) [.int .u32 x3] 0))
  refine w_regO ⟨[E12, E13], [], H⟩ ?_ ?_
  refine yr 4 S21 ?_
  refine o_one ⟨[E1, E2, E14, E15, E16, E17, E18], [B3], H⟩ (st_ix (X := X) S21 42 35 1 h4 (eI .u32) (.own 0) (some 20) (by kernel_rfl) (by kernel_rfl) (by kernel_rfl) (by kernel_rfl)) ?_
  refine yr 3 ⟨[E1, E2, E12, E13, E14, E15, E16, E17, E18, (21, .one .top (.int .u32 x3))], [B3], H⟩ ?_
  exact ye
  refine w_ret ?_
  obtain ⟨e0, e1⟩ := some2_inv hF
  subst e0
  subst e1
  exact yp (.tup [.one .top (.int .u32 x3), .one .top (.int .i64 0)])
noncomputable def ref03_Fetch  (p0 : T_ref03_Mem) (p1 : Int) : Option (Int × Int) :=
  bind2 (ref03_Load p0 p1) fun r1 r2 =>
  if ((r2 == 0) && (decide (p1 ≥ (p0.Ends_.g 0)))) = true then (some (0, 31))
  else (some (r1, r2))
theorem ok_ref03_Fetch (H : Heap) {p0 : T_ref03_Mem} {p1 : Int} {ra : Int} {rb : Int} (hF : ref03_Fetch p0 p1 = some (ra, rb)) : evS X 95 [.agg (m0_ref03_Mem p0), .one .top (.int .u32 p1)] H = some (.tup [.one .top (.int .u32 ra), .one .top (.int .i64 rb)], H) := by
  let E1 : EN := (1, .one .top (.int .u32 p1))
  let E2 : EN := (2, .one .top (.loc 2 0))
  let B3 : EB := (2, (m0_ref03_Mem p0))
  let E6 : EN := (9, .agg (m0_ref03_Mem p0))
  let E7 : EN := (10, .one .top (.int .u32 p1))
  let S10 : St := ⟨[E1, E2, E6, E7], [B3], H⟩
  refine yf Try.func95 true ⟨[(0, .agg (m0_ref03_Mem p0)), E1], [], H⟩ ?_
  unfold ref03_Fetch at hF
  refine ysg ⟨[E1, E2], [B3], H⟩ ?_
  refine w_seq ?_
  obtain ⟨r1, r2, c3, hF⟩ := bind2_inv hF
  let E4 : EN := (6, .one .top (.int .u32 r1))
  let E5 : EN := (7, .one .top (.int .i64 r2))
  let E8 : EN := (11, .tup [.one .top (.int .u32 r1), .one .top (.int .i64 r2)])
  let E9 : EN := (14, .one .top (.int .i64 r2))
  refine w_regO ⟨[E1, E2, E4, E5], [B3], H⟩ ?_ ?_
  refine yr 2 S10 ?_
  refine o_one ⟨[E1, E2, E6, E7, E8], [B3], H⟩ (yc (some 11) true false S10 (ok_ref03_Load H c3)) ?_
  refine yr 5 ⟨[E1, E2, E4, E5, (8, .tup [.one .top (.int .u32 r1), .one .top (.int .i64 r2)]), E6, E7, E8, (12, .one .top (.int .u32 r1)), (13, .one .top (.int .i64 r2))], [B3], H⟩ ?_
  exact ye
  refine w_seq ?_
  refine yso ⟨[E4, E5, (22, .one .top (.bool ((r2 == 0) && (decide (p1 ≥ (p0.Ends_.g 0))))))], [], H⟩ ?_ ?_
  refine yr 3 ⟨[E1, E2, E4, E5, E9, (15, .one .top (.bool (r2 == 0))), (16, .one .top (.bool (r2 == 0)))], [B3], H⟩ ?_
  rcases bool_cases (r2 == 0) with h4 | h4
  refine o_eq (congrArg (fun q => (⟨[E1, E2, E4, E5, E9, (15, .one .top (.bool q)), (16, .one .top (.bool q))], [B3], H⟩ : St)) h4) ?_
  refine yr 6 ⟨[E1, E2, E4, E5, E9, (15, .one .top (.bool true)), (16, .one .top (.bool true)), (17, .one .top (.int .u32 p1)), (18, .one .top (.loc 2 0)), (19, .one .top (.loc 2 0)), (20, .one .top (.int .u32 (p0.Ends_.g 0))), (21, .one .top (.bool (decide (p1 ≥ (p0.Ends_.g 0))))), (22, .one .top (.bool (decide (p1 ≥ (p0.Ends_.g 0)))))], [B3], H⟩ ?_
  refine o_eq2 (congrArg (fun q0 => (⟨[E4, E5, (22, .one .top (.bool q0))], [], H⟩ : St)) (show (decide (p1 ≥ (p0.Ends_.g 0))) = ((r2 == 0) && (decide (p1 ≥ (p0.Ends_.g 0)))) by simp [h4])) ?_
  exact ye
  refine o_eq (congrArg (fun q => (⟨[E1, E2, E4, E5, E9, (15, .one .top (.bool q)), (16, .one .top (.bool q))], [B3], H⟩ : St)) h4) ?_
  refine yr 6 ⟨[E1, E2, E4, E5, E9, (15, .one .top (.bool false)), (16, .one .top (.bool false)), (17, .tup []), (18, .tup []), (19, .tup []), (20, .tup []), (21, .tup []), (22, .one .top (.bool false))], [B3], H⟩ ?_
  refine o_eq2 (congrArg (fun q0 => (⟨[E4, E5, (22, .one .top (.bool q0))], [], H⟩ : St)) (show false = ((r2 == 0) && (decide (p1 ≥ (p0.Ends_.g 0)))) by simp [h4])) ?_
  exact ye
  rcases if_inv hF with ⟨h5, hF⟩ | ⟨h5, hF⟩
  refine yT h5 ⟨[], [], H⟩ ?_
  refine ysg ⟨[(4, .one .top (.int .u32 0)), (5, .one .top (.int .i64 31))], [], H⟩ ?_
  refine w_ret ?_
  obtain ⟨e0, e1⟩ := some2_inv hF
  subst e0
  subst e1
  exact yp (.tup [.one .top (.int .u32 0), .one .top (.int .i64 31)])
  refine yF h5 ⟨[E4, E5], [], H⟩ ?_
  refine w_skip ?_
  refine ysg ⟨[(4, .one .top (.int .u32 r1)), (5, .one .top (.int .i64 r2))], [], H⟩ ?_
  refine w_ret ?_
  obtain ⟨e0, e1⟩ := some2_inv hF
  subst e0
  subst e1
  exact yp (.tup [.one .top (.int .u32 r1), .one .top (.int .i64 r2)])
noncomputable def ref04_fault  (p0 : T_ref04_Cpu) (p1 : Int) : Option (T_ref04_Cpu) :=
  some (T_ref04_Cpu.mk p0.R_ p0.PC_ p0.EPC_ p0.Cause_ 2 p1 p0.Steps_ p0.Taken_ p0.Out_ p0.Entry_ p0.Vector_ p0.Guard_ p0.Limit_ p0.Input_)
theorem ok_ref04_fault (H : Heap) {p0 : T_ref04_Cpu} {p1 : Int} {ra : T_ref04_Cpu} (hF : ref04_fault p0 p1 = some ra) : evS X 96 [.agg (m1_ref04_Cpu p0), .one .top (.int .i64 p1)] H = some (.agg (m1_ref04_Cpu ra), H) := by
  let E1 : EN := (1, .one .top (.int .i64 p1))
  let E2 : EN := (4, .one .top (.loc 4 0))
  let B3 : EB := (4, (List.replicate 19 (.top, .int .u32 0) ++ List.replicate 4 (.top, .int .i64 0) ++ [((.own 1), .sl 2 (List.map e_api_Event ([] : List T_api_Event)))] ++ List.replicate 4 (.top, .int .u32 0) ++ [((.own 1), .sl 1 (List.map (eI .i32) ([] : List Int)))]))
  refine yf Try.func96 true ⟨[(0, .agg (m1_ref04_Cpu p0)), E1], [], H⟩ ?_
  unfold ref04_fault at hF
  refine ysg ⟨[E1, (2, .one .top (.loc 2 0)), E2], [(2, (m1_ref04_Cpu p0)), B3], H⟩ ?_
  refine ysg ⟨[(2, .one .top (.loc 2 0)), E2], [(2, (arM .u32 16 p0.R_ ++ [(.top, .int .u32 p0.PC_), (.top, .int .u32 p0.EPC_), (.top, .int .u32 p0.Cause_), (.top, .int .i64 2), (.top, .int .i64 p1), (.top, .int .i64 p0.Steps_), (.top, .int .i64 p0.Taken_), ((.own 0), .sl 2 (List.map e_api_Event p0.Out_)), (.top, .int .u32 p0.Entry_), (.top, .int .u32 p0.Vector_), (.top, .int .u32 p0.Guard_), (.top, .int .u32 p0.Limit_), ((.own 0), .sl 1 (List.map (eI .i32) p0.Input_))])), B3], H⟩ ?_
  refine ysg ⟨[E2], [(4, (arM .u32 16 p0.R_ ++ [(.top, .int .u32 p0.PC_), (.top, .int .u32 p0.EPC_), (.top, .int .u32 p0.Cause_), (.top, .int .i64 2), (.top, .int .i64 p1), (.top, .int .i64 p0.Steps_), (.top, .int .i64 p0.Taken_), ((.own 0), .sl 2 (List.map e_api_Event p0.Out_)), (.top, .int .u32 p0.Entry_), (.top, .int .u32 p0.Vector_), (.top, .int .u32 p0.Guard_), (.top, .int .u32 p0.Limit_), ((.own 0), .sl 1 (List.map (eI .i32) p0.Input_))]))], H⟩ ?_
  refine w_ret ?_
  obtain e0 := some1_inv hF
  subst e0
  exact yp (.agg (arM .u32 16 p0.R_ ++ [(.top, .int .u32 p0.PC_), (.top, .int .u32 p0.EPC_), (.top, .int .u32 p0.Cause_), (.top, .int .i64 2), (.top, .int .i64 p1), (.top, .int .i64 p0.Steps_), (.top, .int .i64 p0.Taken_), ((.own 0), .sl 2 (List.map e_api_Event p0.Out_)), (.top, .int .u32 p0.Entry_), (.top, .int .u32 p0.Vector_), (.top, .int .u32 p0.Guard_), (.top, .int .u32 p0.Limit_), ((.own 0), .sl 1 (List.map (eI .i32) p0.Input_))]))
noncomputable def ref02_Shape_j6 (p0 : Int) (j14 : Bool) : Option (Int) :=
  if j14 = true then (some 7)
  else (if (p0 == 28) = true then (some 8)
  else (some (-1)))
noncomputable def ref02_Shape_j5 (p0 : Int) (j12 : Bool) : Option (Int) :=
  if j12 = true then (some 6)
  else (if (p0 == 22) = true then (ref02_Shape_j6 p0 (p0 == 22))
  else (ref02_Shape_j6 p0 (p0 == 23)))
noncomputable def ref02_Shape_j7 (p0 : Int) (j19 : Bool) : Option (Int) :=
  ref02_Shape_j5 p0 j19
noncomputable def ref02_Shape_j8 (p0 : Int) (j21 : Bool) : Option (Int) :=
  ref02_Shape_j7 p0 j21
noncomputable def ref02_Shape_j9 (p0 : Int) (j23 : Bool) : Option (Int) :=
  ref02_Shape_j8 p0 j23
noncomputable def ref02_Shape_j10 (p0 : Int) (j25 : Bool) : Option (Int) :=
  ref02_Shape_j9 p0 j25
noncomputable def ref02_Shape_j4 (p0 : Int) (j10 : Bool) : Option (Int) :=
  if j10 = true then (some 4)
  else (if (p0 == 24) = true then (ref02_Shape_j5 p0 (p0 == 24))
  else (if (p0 == 25) = true then (ref02_Shape_j7 p0 (p0 == 25))
  else (if (p0 == 27) = true then (ref02_Shape_j8 p0 (p0 == 27))
  else (if (p0 == 29) = true then (ref02_Shape_j9 p0 (p0 == 29))
  else (if (p0 == 31) = true then (ref02_Shape_j10 p0 (p0 == 31))
  else (ref02_Shape_j10 p0 (p0 == 32)))))))
noncomputable def ref02_Shape_j11 (p0 : Int) (j28 : Bool) : Option (Int) :=
  ref02_Shape_j4 p0 j28
noncomputable def ref02_Shape_j3 (p0 : Int) (j8 : Bool) : Option (Int) :=
  if j8 = true then (some 3)
  else (if (p0 == 4) = true then (ref02_Shape_j4 p0 (p0 == 4))
  else (if (p0 == 26) = true then (ref02_Shape_j11 p0 (p0 == 26))
  else (ref02_Shape_j11 p0 (p0 == 34))))
noncomputable def ref02_Shape_j12 (p0 : Int) (j31 : Bool) : Option (Int) :=
  ref02_Shape_j3 p0 j31
noncomputable def ref02_Shape_j2 (p0 : Int) (j6 : Bool) : Option (Int) :=
  if j6 = true then (some 2)
  else (if (p0 == 5) = true then (ref02_Shape_j3 p0 (p0 == 5))
  else (if (p0 == 18) = true then (ref02_Shape_j12 p0 (p0 == 18))
  else (ref02_Shape_j12 p0 (p0 == 19))))
noncomputable def ref02_Shape_j13 (p0 : Int) (j34 : Bool) : Option (Int) :=
  ref02_Shape_j2 p0 j34
noncomputable def ref02_Shape_j1 (p0 : Int) (j4 : Bool) : Option (Int) :=
  if j4 = true then (some 1)
  else (if (p0 == 3) = true then (ref02_Shape_j2 p0 (p0 == 3))
  else (if (p0 == 30) = true then (ref02_Shape_j13 p0 (p0 == 30))
  else (ref02_Shape_j13 p0 (p0 == 33))))
noncomputable def ref02_Shape_j14 (p0 : Int) (j37 : Bool) : Option (Int) :=
  ref02_Shape_j1 p0 j37
noncomputable def ref02_Shape  (p0 : Int) : Option (Int) :=
  if ((decide (p0 ≥ 6)) && (decide (p0 ≤ 17))) = true then (some 5)
  else (if (p0 == 1) = true then (some 0)
  else (if (p0 == 2) = true then (ref02_Shape_j1 p0 (p0 == 2))
  else (if (p0 == 20) = true then (ref02_Shape_j14 p0 (p0 == 20))
  else (ref02_Shape_j14 p0 (p0 == 21)))))
theorem ok_ref02_Shape (H : Heap) {p0 : Int} {ra : Int} (hF : ref02_Shape p0 = some ra) : evS X 91 [.one .top (.int .i64 p0)] H = some (.one .top (.int .i64 ra), H) := by
  let E1 : EN := (0, .one .top (.int .i64 p0))
  let E2 : EN := (3, .one .top (.int .i64 p0))
  let E3 : EN := (9, .one .top (.int .i64 p0))
  let E4 : EN := (12, .one .top (.bool (p0 == 2)))
  let E5 : EN := (16, .one .top (.bool (p0 == 3)))
  let E6 : EN := (20, .one .top (.bool (p0 == 5)))
  let E7 : EN := (24, .one .top (.bool (p0 == 4)))
  let E8 : EN := (28, .one .top (.bool (p0 == 24)))
  let E9 : EN := (35, .one .top (.bool (p0 == 22)))
  let E10 : EN := (28, .one .top (.bool (p0 == 25)))
  let E11 : EN := (28, .one .top (.bool (p0 == 27)))
  let E12 : EN := (28, .one .top (.bool (p0 == 29)))
  let E13 : EN := (28, .one .top (.bool (p0 == 31)))
  let E14 : EN := (24, .one .top (.bool (p0 == 26)))
  let E15 : EN := (20, .one .top (.bool (p0 == 18)))
  let E16 : EN := (16, .one .top (.bool (p0 == 30)))
  let E17 : EN := (12, .one .top (.bool (p0 == 20)))
  let S18 : St := ⟨[E1], [], H⟩
  let S19 : St := ⟨[], [], H⟩
  let S20 : St := ⟨[E3], [], H⟩
  refine yf Try.func91 true S18 ?_
  unfold ref02_Shape at hF
  refine ysg S18 ?_
  refine w_seq ?_
  refine yso ⟨[E1, (8, .one .top (.bool ((decide (p0 ≥ 6)) && (decide (p0 ≤ 17)))))], [], H⟩ ?_ ?_
  refine yr 3 ⟨[E1, E2, (4, .one .top (.bool (decide (p0 ≥ 6)))), (5, .one .top (.bool (decide (p0 ≥ 6))))], [], H⟩ ?_
  rcases bool_cases (decide (p0 ≥ 6)) with h1 | h1
  refine o_eq (congrArg (fun q => (⟨[E1, E2, (4, .one .top (.bool q)), (5, .one .top (.bool q))], [], H⟩ : St)) h1) ?_
  refine yr 3 ⟨[E1, E2, (4, .one .top (.bool true)), (5, .one .top (.bool true)), (6, .one .top (.int .i64 p0)), (7, .one .top (.bool (decide (p0 ≤ 17)))), (8, .one .top (.bool (decide (p0 ≤ 17))))], [], H⟩ ?_
  refine o_eq2 (congrArg (fun q0 => (⟨[E1, (8, .one .top (.bool q0))], [], H⟩ : St)) (show (decide (p0 ≤ 17)) = ((decide (p0 ≥ 6)) && (decide (p0 ≤ 17))) by simp [h1])) ?_
  exact ye
  refine o_eq (congrArg (fun q => (⟨[E1, E2, (4, .one .top (.bool q)), (5, .one .top (.bool q))], [], H⟩ : St)) h1) ?_
  refine yr 3 ⟨[E1, E2, (4, .one .top (.bool false)), (5, .one .top (.bool false)), (6, .tup []), (7, .tup []), (8, .one .top (.bool false))], [], H⟩ ?_
  refine o_eq2 (congrArg (fun q0 => (⟨[E1, (8, .one .top (.bool q0))], [], H⟩ : St)) (show false = ((decide (p0 ≥ 6)) && (decide (p0 ≤ 17))) by simp [h1])) ?_
  exact ye
  rcases if_inv hF with ⟨h2, hF⟩ | ⟨h2, hF⟩
  refine yT h2 S19 ?_
  refine ysg ⟨[(2, .one .top (.int .i64 5))], [], H⟩ ?_
  refine w_ret ?_
  obtain e0 := some1_inv hF
  subst e0
  exact yp (.one .top (.int .i64 5))
  refine yF h2 S18 ?_
  refine w_skip ?_
  refine ysg S20 ?_
  refine w_block ?_
  refine ysg ⟨[E3, (10, .one .top (.bool (p0 == 1)))], [], H⟩ ?_
  rcases if_inv hF with ⟨h3, hF⟩ | ⟨h3, hF⟩
  refine yT h3 S19 ?_
  refine ysg ⟨[(2, .one .top (.int .i64 0))], [], H⟩ ?_
  refine w_ret ?_
  obtain e0 := some1_inv hF
  subst e0
  exact yp (.one .top (.int .i64 0))
  refine yF h3 S20 ?_
  refine w_seq ?_
  refine ysg ⟨[E3, E4], [], H⟩ ?_
  refine w_join (α := (Bool)) (fun x => (⟨[E3, (12, .one .top (.bool x))], [], H⟩ : St)) (fun x => ref02_Shape_j1 p0 x = some ra) ?_ ?_
  rintro j4 hF
  replace hF : ref02_Shape_j1 p0 j4 = some ra := hF
  unfold ref02_Shape_j1 at hF
  rcases if_inv hF with ⟨h5, hF⟩ | ⟨h5, hF⟩
  refine yT h5 S19 ?_
  refine ysg ⟨[(2, .one .top (.int .i64 1))], [], H⟩ ?_
  refine w_ret ?_
  obtain e0 := some1_inv hF
  subst e0
  exact yp (.one .top (.int .i64 1))
  refine yF h5 S20 ?_
  refine w_seq ?_
  refine ysg ⟨[E3, E5], [], H⟩ ?_
  refine w_join (α := (Bool)) (fun x => (⟨[E3, (16, .one .top (.bool x))], [], H⟩ : St)) (fun x => ref02_Shape_j2 p0 x = some ra) ?_ ?_
  rintro j6 hF
  replace hF : ref02_Shape_j2 p0 j6 = some ra := hF
  unfold ref02_Shape_j2 at hF
  rcases if_inv hF with ⟨h7, hF⟩ | ⟨h7, hF⟩
  refine yT h7 S19 ?_
  refine ysg ⟨[(2, .one .top (.int .i64 2))], [], H⟩ ?_
  refine w_ret ?_
  obtain e0 := some1_inv hF
  subst e0
  exact yp (.one .top (.int .i64 2))
  refine yF h7 S20 ?_
  refine w_seq ?_
  refine ysg ⟨[E3, E6], [], H⟩ ?_
  refine w_join (α := (Bool)) (fun x => (⟨[E3, (20, .one .top (.bool x))], [], H⟩ : St)) (fun x => ref02_Shape_j3 p0 x = some ra) ?_ ?_
  rintro j8 hF
  replace hF : ref02_Shape_j3 p0 j8 = some ra := hF
  unfold ref02_Shape_j3 at hF
  rcases if_inv hF with ⟨h9, hF⟩ | ⟨h9, hF⟩
  refine yT h9 S19 ?_
  refine ysg ⟨[(2, .one .top (.int .i64 3))], [], H⟩ ?_
  refine w_ret ?_
  obtain e0 := some1_inv hF
  subst e0
  exact yp (.one .top (.int .i64 3))
  refine yF h9 S20 ?_
  refine w_seq ?_
  refine ysg ⟨[E3, E7], [], H⟩ ?_
  refine w_join (α := (Bool)) (fun x => (⟨[E3, (24, .one .top (.bool x))], [], H⟩ : St)) (fun x => ref02_Shape_j4 p0 x = some ra) ?_ ?_
  rintro j10 hF
  replace hF : ref02_Shape_j4 p0 j10 = some ra := hF
  unfold ref02_Shape_j4 at hF
  rcases if_inv hF with ⟨h11, hF⟩ | ⟨h11, hF⟩
  refine yT h11 S19 ?_
  refine ysg ⟨[(2, .one .top (.int .i64 4))], [], H⟩ ?_
  refine w_ret ?_
  obtain e0 := some1_inv hF
  subst e0
  exact yp (.one .top (.int .i64 4))
  refine yF h11 S20 ?_
  refine w_seq ?_
  refine ysg ⟨[E3, E8], [], H⟩ ?_
  refine w_join (α := (Bool)) (fun x => (⟨[E3, (28, .one .top (.bool x))], [], H⟩ : St)) (fun x => ref02_Shape_j5 p0 x = some ra) ?_ ?_
  rintro j12 hF
  replace hF : ref02_Shape_j5 p0 j12 = some ra := hF
  unfold ref02_Shape_j5 at hF
  rcases if_inv hF with ⟨h13, hF⟩ | ⟨h13, hF⟩
  refine yT h13 S19 ?_
  refine ysg ⟨[(2, .one .top (.int .i64 6))], [], H⟩ ?_
  refine w_ret ?_
  obtain e0 := some1_inv hF
  subst e0
  exact yp (.one .top (.int .i64 6))
  refine yF h13 S20 ?_
  refine w_seq ?_
  refine ysg ⟨[E3, E9], [], H⟩ ?_
  refine w_join (α := (Bool)) (fun x => (⟨[E3, (35, .one .top (.bool x))], [], H⟩ : St)) (fun x => ref02_Shape_j6 p0 x = some ra) ?_ ?_
  rintro j14 hF
  replace hF : ref02_Shape_j6 p0 j14 = some ra := hF
  unfold ref02_Shape_j6 at hF
  rcases if_inv hF with ⟨h15, hF⟩ | ⟨h15, hF⟩
  refine yT h15 S19 ?_
  refine ysg ⟨[(2, .one .top (.int .i64 7))], [], H⟩ ?_
  refine w_ret ?_
  obtain e0 := some1_inv hF
  subst e0
  exact yp (.one .top (.int .i64 7))
  refine yF h15 S20 ?_
  refine ysg ⟨[(38, .one .top (.bool (p0 == 28)))], [], H⟩ ?_
  rcases if_inv hF with ⟨h16, hF⟩ | ⟨h16, hF⟩
  refine yT h16 S19 ?_
  refine ysg ⟨[(2, .one .top (.int .i64 8))], [], H⟩ ?_
  refine w_ret ?_
  obtain e0 := some1_inv hF
  subst e0
  exact yp (.one .top (.int .i64 8))
  refine yF h16 S19 ?_
  refine ysg ⟨[(2, .one .top (.int .i64 (-1)))], [], H⟩ ?_
  refine w_ret ?_
  obtain e0 := some1_inv hF
  subst e0
  exact yp (.one .top (.int .i64 (-1)))
  rcases if_inv hF with ⟨h17, hF⟩ | ⟨h17, hF⟩
  refine yT h17 ⟨[E3, E9], [], H⟩ ?_
  refine w_skip ?_
  exact ⟨(p0 == 22), hF, (by kernel_rfl)⟩
  refine yF h17 S20 ?_
  refine yg ⟨[E3, (35, .one .top (.bool (p0 == 23)))], [], H⟩ ?_
  exact ⟨(p0 == 23), hF, (by kernel_rfl)⟩
  rcases if_inv hF with ⟨h18, hF⟩ | ⟨h18, hF⟩
  refine yT h18 ⟨[E3, E8], [], H⟩ ?_
  refine w_skip ?_
  exact ⟨(p0 == 24), hF, (by kernel_rfl)⟩
  refine yF h18 S20 ?_
  refine ysg ⟨[E3, E10], [], H⟩ ?_
  refine w_join (α := (Bool)) (fun x => (⟨[E3, (28, .one .top (.bool x))], [], H⟩ : St)) (fun x => ref02_Shape_j7 p0 x = some ra) ?_ ?_
  rintro j19 hF
  replace hF : ref02_Shape_j7 p0 j19 = some ra := hF
  unfold ref02_Shape_j7 at hF
  exact ⟨j19, hF, (by kernel_rfl)⟩
  rcases if_inv hF with ⟨h20, hF⟩ | ⟨h20, hF⟩
  refine yT h20 ⟨[E3, E10], [], H⟩ ?_
  refine w_skip ?_
  exact ⟨(p0 == 25), hF, (by kernel_rfl)⟩
  refine yF h20 S20 ?_
  refine ysg ⟨[E3, E11], [], H⟩ ?_
  refine w_join (α := (Bool)) (fun x => (⟨[E3, (28, .one .top (.bool x))], [], H⟩ : St)) (fun x => ref02_Shape_j8 p0 x = some ra) ?_ ?_
  rintro j21 hF
  replace hF : ref02_Shape_j8 p0 j21 = some ra := hF
  unfold ref02_Shape_j8 at hF
  exact ⟨j21, hF, (by kernel_rfl)⟩
  rcases if_inv hF with ⟨h22, hF⟩ | ⟨h22, hF⟩
  refine yT h22 ⟨[E3, E11], [], H⟩ ?_
  refine w_skip ?_
  exact ⟨(p0 == 27), hF, (by kernel_rfl)⟩
  refine yF h22 S20 ?_
  refine ysg ⟨[E3, E12], [], H⟩ ?_
  refine w_join (α := (Bool)) (fun x => (⟨[E3, (28, .one .top (.bool x))], [], H⟩ : St)) (fun x => ref02_Shape_j9 p0 x = some ra) ?_ ?_
  rintro j23 hF
  replace hF : ref02_Shape_j9 p0 j23 = some ra := hF
  unfold ref02_Shape_j9 at hF
  exact ⟨j23, hF, (by kernel_rfl)⟩
  rcases if_inv hF with ⟨h24, hF⟩ | ⟨h24, hF⟩
  refine yT h24 ⟨[E3, E12], [], H⟩ ?_
  refine w_skip ?_
  exact ⟨(p0 == 29), hF, (by kernel_rfl)⟩
  refine yF h24 S20 ?_
  refine ysg ⟨[E3, E13], [], H⟩ ?_
  refine w_join (α := (Bool)) (fun x => (⟨[E3, (28, .one .top (.bool x))], [], H⟩ : St)) (fun x => ref02_Shape_j10 p0 x = some ra) ?_ ?_
  rintro j25 hF
  replace hF : ref02_Shape_j10 p0 j25 = some ra := hF
  unfold ref02_Shape_j10 at hF
  exact ⟨j25, hF, (by kernel_rfl)⟩
  rcases if_inv hF with ⟨h26, hF⟩ | ⟨h26, hF⟩
  refine yT h26 ⟨[E3, E13], [], H⟩ ?_
  refine w_skip ?_
  exact ⟨(p0 == 31), hF, (by kernel_rfl)⟩
  refine yF h26 S20 ?_
  refine yg ⟨[E3, (28, .one .top (.bool (p0 == 32)))], [], H⟩ ?_
  exact ⟨(p0 == 32), hF, (by kernel_rfl)⟩
  rcases if_inv hF with ⟨h27, hF⟩ | ⟨h27, hF⟩
  refine yT h27 ⟨[E3, E7], [], H⟩ ?_
  refine w_skip ?_
  exact ⟨(p0 == 4), hF, (by kernel_rfl)⟩
  refine yF h27 S20 ?_
  refine ysg ⟨[E3, E14], [], H⟩ ?_
  refine w_join (α := (Bool)) (fun x => (⟨[E3, (24, .one .top (.bool x))], [], H⟩ : St)) (fun x => ref02_Shape_j11 p0 x = some ra) ?_ ?_
  rintro j28 hF
  replace hF : ref02_Shape_j11 p0 j28 = some ra := hF
  unfold ref02_Shape_j11 at hF
  exact ⟨j28, hF, (by kernel_rfl)⟩
  rcases if_inv hF with ⟨h29, hF⟩ | ⟨h29, hF⟩
  refine yT h29 ⟨[E3, E14], [], H⟩ ?_
  refine w_skip ?_
  exact ⟨(p0 == 26), hF, (by kernel_rfl)⟩
  refine yF h29 S20 ?_
  refine yg ⟨[E3, (24, .one .top (.bool (p0 == 34)))], [], H⟩ ?_
  exact ⟨(p0 == 34), hF, (by kernel_rfl)⟩
  rcases if_inv hF with ⟨h30, hF⟩ | ⟨h30, hF⟩
  refine yT h30 ⟨[E3, E6], [], H⟩ ?_
  refine w_skip ?_
  exact ⟨(p0 == 5), hF, (by kernel_rfl)⟩
  refine yF h30 S20 ?_
  refine ysg ⟨[E3, E15], [], H⟩ ?_
  refine w_join (α := (Bool)) (fun x => (⟨[E3, (20, .one .top (.bool x))], [], H⟩ : St)) (fun x => ref02_Shape_j12 p0 x = some ra) ?_ ?_
  rintro j31 hF
  replace hF : ref02_Shape_j12 p0 j31 = some ra := hF
  unfold ref02_Shape_j12 at hF
  exact ⟨j31, hF, (by kernel_rfl)⟩
  rcases if_inv hF with ⟨h32, hF⟩ | ⟨h32, hF⟩
  refine yT h32 ⟨[E3, E15], [], H⟩ ?_
  refine w_skip ?_
  exact ⟨(p0 == 18), hF, (by kernel_rfl)⟩
  refine yF h32 S20 ?_
  refine yg ⟨[E3, (20, .one .top (.bool (p0 == 19)))], [], H⟩ ?_
  exact ⟨(p0 == 19), hF, (by kernel_rfl)⟩
  rcases if_inv hF with ⟨h33, hF⟩ | ⟨h33, hF⟩
  refine yT h33 ⟨[E3, E5], [], H⟩ ?_
  refine w_skip ?_
  exact ⟨(p0 == 3), hF, (by kernel_rfl)⟩
  refine yF h33 S20 ?_
  refine ysg ⟨[E3, E16], [], H⟩ ?_
  refine w_join (α := (Bool)) (fun x => (⟨[E3, (16, .one .top (.bool x))], [], H⟩ : St)) (fun x => ref02_Shape_j13 p0 x = some ra) ?_ ?_
  rintro j34 hF
  replace hF : ref02_Shape_j13 p0 j34 = some ra := hF
  unfold ref02_Shape_j13 at hF
  exact ⟨j34, hF, (by kernel_rfl)⟩
  rcases if_inv hF with ⟨h35, hF⟩ | ⟨h35, hF⟩
  refine yT h35 ⟨[E3, E16], [], H⟩ ?_
  refine w_skip ?_
  exact ⟨(p0 == 30), hF, (by kernel_rfl)⟩
  refine yF h35 S20 ?_
  refine yg ⟨[E3, (16, .one .top (.bool (p0 == 33)))], [], H⟩ ?_
  exact ⟨(p0 == 33), hF, (by kernel_rfl)⟩
  rcases if_inv hF with ⟨h36, hF⟩ | ⟨h36, hF⟩
  refine yT h36 ⟨[E3, E4], [], H⟩ ?_
  refine w_skip ?_
  exact ⟨(p0 == 2), hF, (by kernel_rfl)⟩
  refine yF h36 S20 ?_
  refine ysg ⟨[E3, E17], [], H⟩ ?_
  refine w_join (α := (Bool)) (fun x => (⟨[E3, (12, .one .top (.bool x))], [], H⟩ : St)) (fun x => ref02_Shape_j14 p0 x = some ra) ?_ ?_
  rintro j37 hF
  replace hF : ref02_Shape_j14 p0 j37 = some ra := hF
  unfold ref02_Shape_j14 at hF
  exact ⟨j37, hF, (by kernel_rfl)⟩
  rcases if_inv hF with ⟨h38, hF⟩ | ⟨h38, hF⟩
  refine yT h38 ⟨[E3, E17], [], H⟩ ?_
  refine w_skip ?_
  exact ⟨(p0 == 20), hF, (by kernel_rfl)⟩
  refine yF h38 S20 ?_
  refine yg ⟨[E3, (12, .one .top (.bool (p0 == 21)))], [], H⟩ ?_
  exact ⟨(p0 == 21), hF, (by kernel_rfl)⟩
noncomputable def ref02_has  (p0 : Int) : Option (Bool × Bool × Bool) :=
  some (((decide (p0 ≥ 1)) && (decide (p0 ≤ 6))), ((decide (p0 ≥ 3)) && (decide (p0 ≤ 5))), (p0 == 5))
theorem ok_ref02_has (H : Heap) {p0 : Int} {ra : Bool} {rb : Bool} {rc : Bool} (hF : ref02_has p0 = some (ra, rb, rc)) : evS X 114 [.one .top (.int .i64 p0)] H = some (.tup [.one .top (.bool ra), .one .top (.bool rb), .one .top (.bool rc)], H) := by
  let E1 : EN := (0, .one .top (.int .i64 p0))
  let E2 : EN := (5, .one .top (.bool ((decide (p0 ≥ 1)) && (decide (p0 ≤ 6)))))
  let E3 : EN := (7, .one .top (.int .i64 p0))
  let E4 : EN := (13, .one .top (.int .i64 p0))
  refine yf Try.func114 true ⟨[E1], [], H⟩ ?_
  unfold ref02_has at hF
  refine ysg ⟨[E1], [], H⟩ ?_
  refine yso ⟨[E1, E2], [], H⟩ ?_ ?_
  refine yr 3 ⟨[E1, E3, (8, .one .top (.bool (decide (p0 ≥ 1)))), (9, .one .top (.bool (decide (p0 ≥ 1))))], [], H⟩ ?_
  rcases bool_cases (decide (p0 ≥ 1)) with h1 | h1
  refine o_eq (congrArg (fun q => (⟨[E1, E3, (8, .one .top (.bool q)), (9, .one .top (.bool q))], [], H⟩ : St)) h1) ?_
  refine yr 4 ⟨[E1, (5, .one .top (.bool (decide (p0 ≤ 6)))), E3, (8, .one .top (.bool true)), (9, .one .top (.bool true)), (10, .one .top (.int .i64 p0)), (11, .one .top (.bool (decide (p0 ≤ 6)))), (12, .one .top (.bool (decide (p0 ≤ 6))))], [], H⟩ ?_
  refine o_eq2 (congrArg (fun q0 => (⟨[E1, (5, .one .top (.bool q0))], [], H⟩ : St)) (show (decide (p0 ≤ 6)) = ((decide (p0 ≥ 1)) && (decide (p0 ≤ 6))) by simp [h1])) ?_
  exact ye
  refine o_eq (congrArg (fun q => (⟨[E1, E3, (8, .one .top (.bool q)), (9, .one .top (.bool q))], [], H⟩ : St)) h1) ?_
  refine yr 4 ⟨[E1, (5, .one .top (.bool false)), E3, (8, .one .top (.bool false)), (9, .one .top (.bool false)), (10, .tup []), (11, .tup []), (12, .one .top (.bool false))], [], H⟩ ?_
  refine o_eq2 (congrArg (fun q0 => (⟨[E1, (5, .one .top (.bool q0))], [], H⟩ : St)) (show false = ((decide (p0 ≥ 1)) && (decide (p0 ≤ 6))) by simp [h1])) ?_
  exact ye
  refine yso ⟨[E1, E2, (6, .one .top (.bool ((decide (p0 ≥ 3)) && (decide (p0 ≤ 5)))))], [], H⟩ ?_ ?_
  refine yr 3 ⟨[E1, E2, E4, (14, .one .top (.bool (decide (p0 ≥ 3)))), (15, .one .top (.bool (decide (p0 ≥ 3))))], [], H⟩ ?_
  rcases bool_cases (decide (p0 ≥ 3)) with h2 | h2
  refine o_eq (congrArg (fun q => (⟨[E1, E2, E4, (14, .one .top (.bool q)), (15, .one .top (.bool q))], [], H⟩ : St)) h2) ?_
  refine yr 4 ⟨[E1, E2, (6, .one .top (.bool (decide (p0 ≤ 5)))), E4, (14, .one .top (.bool true)), (15, .one .top (.bool true)), (16, .one .top (.int .i64 p0)), (17, .one .top (.bool (decide (p0 ≤ 5)))), (18, .one .top (.bool (decide (p0 ≤ 5))))], [], H⟩ ?_
  refine o_eq2 (congrArg (fun q0 => (⟨[E1, E2, (6, .one .top (.bool q0))], [], H⟩ : St)) (show (decide (p0 ≤ 5)) = ((decide (p0 ≥ 3)) && (decide (p0 ≤ 5))) by simp [h2])) ?_
  exact ye
  refine o_eq (congrArg (fun q => (⟨[E1, E2, E4, (14, .one .top (.bool q)), (15, .one .top (.bool q))], [], H⟩ : St)) h2) ?_
  refine yr 4 ⟨[E1, E2, (6, .one .top (.bool false)), E4, (14, .one .top (.bool false)), (15, .one .top (.bool false)), (16, .tup []), (17, .tup []), (18, .one .top (.bool false))], [], H⟩ ?_
  refine o_eq2 (congrArg (fun q0 => (⟨[E1, E2, (6, .one .top (.bool q0))], [], H⟩ : St)) (show false = ((decide (p0 ≥ 3)) && (decide (p0 ≤ 5))) by simp [h2])) ?_
  exact ye
  refine ysg ⟨[(2, .one .top (.bool ((decide (p0 ≥ 1)) && (decide (p0 ≤ 6))))), (3, .one .top (.bool ((decide (p0 ≥ 3)) && (decide (p0 ≤ 5))))), (4, .one .top (.bool (p0 == 5)))], [], H⟩ ?_
  refine w_ret ?_
  obtain ⟨e0, e1, e2⟩ := some3_inv hF
  subst e0
  subst e1
  subst e2
  exact yp (.tup [.one .top (.bool ((decide (p0 ≥ 1)) && (decide (p0 ≤ 6)))), .one .top (.bool ((decide (p0 ≥ 3)) && (decide (p0 ≤ 5)))), .one .top (.bool (p0 == 5))])
noncomputable def ref01_Power_L1 (p0 : Int) (a1 : Int) (a2 : Int) : Option ((Int × Int) ⊕ ((Int))) :=
  if (decide (a2 < p0)) = true then (some (Sum.inl ((IntKind.wrap .i64 (a1 * 2)), (IntKind.wrap .i64 (a2 + 1)))))
  else (some (Sum.inr a1))
noncomputable def ref01_Power  (p0 : Int) : Option (Int) :=
  bind1 (loopO (fun (x : (Int × Int)) => ref01_Power_L1 p0 x.1 x.2) (1, 0)) (fun b6 =>
  some b6)
theorem ok_ref01_Power (H : Heap) {p0 : Int} {ra : Int} (hF : ref01_Power p0 = some ra) : evS X 134 [.one .top (.int .i64 p0)] H = some (.one .top (.int .i64 ra), H) := by
  let E1 : EN := (0, .one .top (.int .i64 p0))
  let E2 : EN := (3, .one .top (.int .i64 1))
  refine yf Try.func134 true ⟨[E1], [], H⟩ ?_
  unfold ref01_Power at hF
  refine ysg ⟨[E1], [], H⟩ ?_
  refine ysg ⟨[E1, E2], [], H⟩ ?_
  refine w_seq ?_
  refine ysg ⟨[E1, E2, (4, .one .top (.int .i64 0))], [], H⟩ ?_
  refine w_block ?_
  obtain ⟨r4, hL5, hF⟩ := bind1_inv hF
  refine w_loop (fun (x : (Int × Int)) => (⟨[E1, (3, .one .top (.int .i64 x.1)), (4, .one .top (.int .i64 x.2))], [], H⟩ : St)) (fun (y : (Int)) => ((.exit 0, (⟨[(3, .one .top (.int .i64 y))], [], H⟩ : St)) : Ex × St)) hL5 (by kernel_rfl) ?_ ?_
  rintro ⟨a1, a2⟩ o hF
  replace hF : ref01_Power_L1 p0 a1 a2 = some o := hF
  let E3 : EN := (3, .one .top (.int .i64 a1))
  let E4 : EN := (4, .one .top (.int .i64 a2))
  let E5 : EN := (3, .one .top (.int .i64 (IntKind.wrap .i64 (a1 * 2))))
  unfold ref01_Power_L1 at hF
  refine w_seq ?_
  refine ysg ⟨[E1, E3, E4, (7, .one .top (.bool (decide (a2 < p0))))], [], H⟩ ?_
  rcases if_inv hF with ⟨h3, hF⟩ | ⟨h3, hF⟩
  refine yT h3 ⟨[E1, E3, E4], [], H⟩ ?_
  refine w_skip ?_
  refine w_seq ?_
  refine w_block ?_
  refine yg ⟨[E1, E5, E4], [], H⟩ ?_
  refine yg ⟨[E1, E5, (4, .one .top (.int .i64 (IntKind.wrap .i64 (a2 + 1))))], [], H⟩ ?_
  cases hF
  exact ⟨_, rfl, (by kernel_rfl)⟩
  refine yF h3 ⟨[E3], [], H⟩ ?_
  refine w_exit ?_
  cases hF
  exact ⟨_, rfl, (by kernel_rfl)⟩
  obtain ⟨b6, hy⟩ : ∃ y, y = r4 := ⟨_, rfl⟩
  subst hy
  refine w_oe (i := 0) (s := (⟨[(3, .one .top (.int .i64 b6))], [], H⟩ : St)) (by kernel_rfl) ?_
  refine e_here ?_
  refine ysg ⟨[(2, .one .top (.int .i64 b6))], [], H⟩ ?_
  refine w_ret ?_
  obtain e0 := some1_inv hF
  subst e0
  exact yp (.one .top (.int .i64 b6))
noncomputable def ref01_Round_j2 (j2 : Int) : Option (Int) :=
  some (IntKind.wrap .i32 j2)
noncomputable def ref01_Round_j1 (j1 : Int) : Option (Int) :=
  if (decide (j1 ≥ 2147483648)) = true then (ref01_Round_j2 (IntKind.wrap .i64 (j1 - 4294967296)))
  else (ref01_Round_j2 j1)
noncomputable def ref01_Round  (p0 : Int) : Option (Int) :=
  if (decide ((Int.tmod p0 4294967296) < 0)) = true then (ref01_Round_j1 (IntKind.wrap .i64 ((Int.tmod p0 4294967296) + 4294967296)))
  else (ref01_Round_j1 (Int.tmod p0 4294967296))
theorem ok_ref01_Round (H : Heap) {p0 : Int} {ra : Int} (hF : ref01_Round p0 = some ra) : evS X 71 [.one .top (.int .i64 p0)] H = some (.one .top (.int .i32 ra), H) := by
  let E1 : EN := (0, .one .top (.int .i64 p0))
  let E2 : EN := (3, .one .top (.int .i64 (Int.tmod p0 4294967296)))
  let S4 : St := ⟨[E2], [], H⟩
  refine yf Try.func71 true ⟨[E1], [], H⟩ ?_
  unfold ref01_Round at hF
  refine ysg ⟨[E1], [], H⟩ ?_
  refine ysg S4 ?_
  refine w_seq ?_
  refine ysg ⟨[E2, (7, .one .top (.bool (decide ((Int.tmod p0 4294967296) < 0))))], [], H⟩ ?_
  refine w_join (α := (Int)) (fun x => (⟨[(3, .one .top (.int .i64 x))], [], H⟩ : St)) (fun x => ref01_Round_j1 x = some ra) ?_ ?_
  rintro j1 hF
  replace hF : ref01_Round_j1 j1 = some ra := hF
  let E3 : EN := (3, .one .top (.int .i64 j1))
  unfold ref01_Round_j1 at hF
  refine w_seq ?_
  refine ysg ⟨[E3, (11, .one .top (.bool (decide (j1 ≥ 2147483648))))], [], H⟩ ?_
  refine w_join (α := (Int)) (fun x => (⟨[(3, .one .top (.int .i64 x))], [], H⟩ : St)) (fun x => ref01_Round_j2 x = some ra) ?_ ?_
  rintro j2 hF
  replace hF : ref01_Round_j2 j2 = some ra := hF
  unfold ref01_Round_j2 at hF
  refine ysg ⟨[(2, .one .top (.int .i32 (IntKind.wrap .i32 j2)))], [], H⟩ ?_
  refine w_ret ?_
  obtain e0 := some1_inv hF
  subst e0
  exact yp (.one .top (.int .i32 (IntKind.wrap .i32 j2)))
  rcases if_inv hF with ⟨h3, hF⟩ | ⟨h3, hF⟩
  refine yT h3 ⟨[E3], [], H⟩ ?_
  refine yg ⟨[(3, .one .top (.int .i64 (IntKind.wrap .i64 (j1 - 4294967296))))], [], H⟩ ?_
  exact ⟨(IntKind.wrap .i64 (j1 - 4294967296)), hF, (by kernel_rfl)⟩
  refine yF h3 ⟨[E3], [], H⟩ ?_
  refine w_skip ?_
  exact ⟨j1, hF, (by kernel_rfl)⟩
  rcases if_inv hF with ⟨h4, hF⟩ | ⟨h4, hF⟩
  refine yT h4 S4 ?_
  refine yg ⟨[(3, .one .top (.int .i64 (IntKind.wrap .i64 ((Int.tmod p0 4294967296) + 4294967296))))], [], H⟩ ?_
  exact ⟨(IntKind.wrap .i64 ((Int.tmod p0 4294967296) + 4294967296)), hF, (by kernel_rfl)⟩
  refine yF h4 S4 ?_
  refine w_skip ?_
  exact ⟨(Int.tmod p0 4294967296), hF, (by kernel_rfl)⟩
noncomputable def ref01_Sext_j1 (j6 : Int) : Option (Int) :=
  bind1 (ref01_Round j6) fun r7 =>
  some r7
noncomputable def ref01_Sext  (p0 : Int) (p1 : Int) : Option (Int) :=
  if (decide (p1 < 1)) = true then (some 0)
  else (bind1 (ref01_Power (if 32 < p1 then 32 else p1)) fun r2 =>
  bind1 (remI .i64 (IntKind.wrap .i64 p0) r2) fun v4 =>
  if (decide (v4 ≥ (IntKind.wrap .i64 (Int.tdiv r2 2)))) = true then (ref01_Sext_j1 (IntKind.wrap .i64 (v4 - r2)))
  else (ref01_Sext_j1 v4))
theorem ok_ref01_Sext (H : Heap) {p0 : Int} {p1 : Int} {ra : Int} (hF : ref01_Sext p0 p1 = some ra) : evS X 115 [.one .top (.int .u32 p0), .one .top (.int .i64 p1)] H = some (.one .top (.int .i32 ra), H) := by
  let E1 : EN := (0, .one .top (.int .u32 p0))
  let E2 : EN := (1, .one .top (.int .i64 p1))
  let E4 : EN := (9, .one .top (.int .i64 p1))
  let E5 : EN := (10, .one .top (.int .i64 (if 32 < p1 then 32 else p1)))
  let E8 : EN := (12, .one .top (.int .u32 p0))
  let E9 : EN := (13, .one .top (.int .i64 (IntKind.wrap .i64 p0)))
  let S16 : St := ⟨[E1, E2], [], H⟩
  let S17 : St := ⟨[E1, E2, E4, E5], [], H⟩
  refine yf Try.func115 true S16 ?_
  unfold ref01_Sext at hF
  refine ysg S16 ?_
  refine w_seq ?_
  refine ysg ⟨[E1, E2, (8, .one .top (.bool (decide (p1 < 1))))], [], H⟩ ?_
  rcases if_inv hF with ⟨h1, hF⟩ | ⟨h1, hF⟩
  refine yT h1 ⟨[], [], H⟩ ?_
  refine ysg ⟨[(4, .one .top (.int .i32 0))], [], H⟩ ?_
  refine w_ret ?_
  obtain e0 := some1_inv hF
  subst e0
  exact yp (.one .top (.int .i32 0))
  refine yF h1 S16 ?_
  refine w_skip ?_
  refine w_seq ?_
  obtain ⟨r2, c3, hF⟩ := bind1_inv hF
  let E3 : EN := (5, .one .top (.int .i64 r2))
  let E6 : EN := (11, .one .top (.int .i64 r2))
  let E10 : EN := (14, .one .top (.int .i64 r2))
  let S18 : St := ⟨[E1, E3, E8, E9, E10], [], H⟩
  refine w_regO ⟨[E1, E3], [], H⟩ ?_ ?_
  refine yr 2 S17 ?_
  refine o_one ⟨[E1, E2, E4, E5, E6], [], H⟩ (yc (some 11) true false S17 (ok_ref01_Power H c3)) ?_
  refine yr 1 ⟨[E1, E2, E3, E4, E5, E6], [], H⟩ ?_
  exact ye
  refine w_seq ?_
  obtain ⟨v4, h5, hF⟩ := bind1_inv hF
  let E7 : EN := (6, .one .top (.int .i64 v4))
  let E11 : EN := (15, .one .top (.int .i64 v4))
  refine w_regO ⟨[E3, E7], [], H⟩ ?_ ?_
  refine yr 3 S18 ?_
  refine o_one ⟨[E1, E3, E8, E9, E10, E11], [], H⟩ (st_binI S18 .i64 h5 (ev_rem (P := X.P) (ty := 3) (x := (.tmp 13)) (y := (.tmp 14)) (m := .top) (m' := .top) (k := .i64) (a := (IntKind.wrap .i64 p0)) (b := r2)) (some 15) (by kernel_rfl) (by kernel_rfl)) ?_
  refine yr 1 ⟨[E1, E3, E7, E8, E9, E10, E11], [], H⟩ ?_
  exact ye
  refine w_seq ?_
  refine ysg ⟨[E3, E7, (19, .one .top (.bool (decide (v4 ≥ (IntKind.wrap .i64 (Int.tdiv r2 2))))))], [], H⟩ ?_
  refine w_join (α := (Int)) (fun x => (⟨[(6, .one .top (.int .i64 x))], [], H⟩ : St)) (fun x => ref01_Sext_j1 x = some ra) ?_ ?_
  rintro j6 hF
  replace hF : ref01_Sext_j1 j6 = some ra := hF
  let E13 : EN := (6, .one .top (.int .i64 j6))
  let E14 : EN := (23, .one .top (.int .i64 j6))
  unfold ref01_Sext_j1 at hF
  refine w_seq ?_
  obtain ⟨r7, c8, hF⟩ := bind1_inv hF
  let E12 : EN := (4, .one .top (.int .i32 r7))
  let E15 : EN := (24, .one .top (.int .i32 r7))
  refine w_regO ⟨[E12], [], H⟩ ?_ ?_
  refine yr 1 ⟨[E13, E14], [], H⟩ ?_
  refine o_one ⟨[E13, E14, E15], [], H⟩ (yc (some 24) true false (⟨[E13, E14], [], H⟩ : St) (ok_ref01_Round H c8)) ?_
  refine yr 1 ⟨[E12, E13, E14, E15], [], H⟩ ?_
  exact ye
  refine w_ret ?_
  obtain e0 := some1_inv hF
  subst e0
  exact yp (.one .top (.int .i32 r7))
  rcases if_inv hF with ⟨h9, hF⟩ | ⟨h9, hF⟩
  refine yT h9 ⟨[E3, E7], [], H⟩ ?_
  refine yg ⟨[(6, .one .top (.int .i64 (IntKind.wrap .i64 (v4 - r2))))], [], H⟩ ?_
  exact ⟨(IntKind.wrap .i64 (v4 - r2)), hF, (by kernel_rfl)⟩
  refine yF h9 ⟨[E7], [], H⟩ ?_
  refine w_skip ?_
  exact ⟨v4, hF, (by kernel_rfl)⟩
noncomputable def ref02_Check_j2 (p0 : T_ref02_Instr) (j26 : Int) (j27 : Int) : Option (Int) :=
  if ((decide (p0.Imm_ < j26)) || (decide (p0.Imm_ > j27))) = true then (some 20)
  else (some 0)
noncomputable def ref02_Check_j4 (p0 : T_ref02_Instr) (j32 : Int) (j33 : Int) : Option (Int) :=
  ref02_Check_j2 p0 j32 j33
noncomputable def ref02_Check_j5 (p0 : T_ref02_Instr) (j35 : Int) (j36 : Int) : Option (Int) :=
  ref02_Check_j4 p0 j35 j36
noncomputable def ref02_Check_j3 (p0 : T_ref02_Instr) (r1 : Int) (j31 : Bool) : Option (Int) :=
  if j31 = true then (ref02_Check_j4 p0 0 65535)
  else (if (r1 == 7) = true then (ref02_Check_j5 p0 (-8388608) 8388607)
  else (ref02_Check_j5 p0 0 0))
noncomputable def ref02_Check_j6 (p0 : T_ref02_Instr) (r1 : Int) (j39 : Bool) : Option (Int) :=
  ref02_Check_j3 p0 r1 j39
noncomputable def ref02_Check_j1 (p0 : T_ref02_Instr) (r1 : Int) (j25 : Bool) : Option (Int) :=
  if j25 = true then (ref02_Check_j2 p0 (-32768) 32767)
  else (if (r1 == 2) = true then (ref02_Check_j3 p0 r1 (r1 == 2))
  else (if (r1 == 4) = true then (ref02_Check_j6 p0 r1 (r1 == 4))
  else (ref02_Check_j6 p0 r1 (r1 == 8))))
noncomputable def ref02_Check  (p0 : T_ref02_Instr) : Option (Int) :=
  bind1 (ref02_Shape p0.Op_) fun r1 =>
  if (decide (r1 < 0)) = true then (some 21)
  else (bind3 (ref02_has r1) fun r4 r5 r6 =>
  if ((decide (p0.A_ < 0)) || ((decide (p0.A_ > 15)) || ((decide (p0.B_ < 0)) || ((decide (p0.B_ > 15)) || ((decide (p0.C_ < 0)) || ((decide (p0.C_ > 15)) || (if (!r4) = true then ((p0.A_ != 0) || (if (!r5) = true then ((p0.B_ != 0) || ((!r6) && (p0.C_ != 0))) else ((!r6) && (p0.C_ != 0)))) else (if (!r5) = true then ((p0.B_ != 0) || ((!r6) && (p0.C_ != 0))) else ((!r6) && (p0.C_ != 0)))))))))) = true then (some 20)
  else (if (r1 == 1) = true then (ref02_Check_j1 p0 r1 (r1 == 1))
  else (ref02_Check_j1 p0 r1 (r1 == 3))))
theorem ok_ref02_Check (H : Heap) {p0 : T_ref02_Instr} {ra : Int} (hF : ref02_Check p0 = some ra) : evS X 90 [.agg (m0_ref02_Instr p0)] H = some (.one .top (.int .i64 ra), H) := by
  let E1 : EN := (1, .one .top (.loc 1 0))
  let B2 : EB := (1, (m0_ref02_Instr p0))
  let E4 : EN := (9, .one .top (.loc 1 0))
  let E5 : EN := (10, .one .top (.int .i64 p0.Op_))
  let E12 : EN := (20, .one .top (.loc 1 1))
  let E13 : EN := (21, .one .top (.int .i64 p0.A_))
  let E14 : EN := (27, .one .top (.bool true))
  let E15 : EN := (28, .one .top (.bool true))
  let E16 : EN := (32, .one .top (.bool true))
  let E17 : EN := (33, .one .top (.bool true))
  let E18 : EN := (37, .one .top (.bool true))
  let E19 : EN := (38, .one .top (.bool true))
  let E20 : EN := (39, .tup [])
  let E21 : EN := (40, .tup [])
  let E22 : EN := (41, .tup [])
  let E23 : EN := (42, .one .top (.bool true))
  let E24 : EN := (43, .one .top (.bool true))
  let E25 : EN := (44, .tup [])
  let E26 : EN := (45, .tup [])
  let E27 : EN := (46, .tup [])
  let E28 : EN := (47, .one .top (.bool true))
  let E29 : EN := (48, .one .top (.bool true))
  let E30 : EN := (49, .tup [])
  let E31 : EN := (50, .tup [])
  let E32 : EN := (51, .tup [])
  let E33 : EN := (52, .tup [])
  let E34 : EN := (53, .tup [])
  let E35 : EN := (54, .tup [])
  let E36 : EN := (55, .tup [])
  let E37 : EN := (56, .one .top (.bool true))
  let E38 : EN := (57, .one .top (.bool true))
  let E39 : EN := (58, .tup [])
  let E40 : EN := (59, .tup [])
  let E41 : EN := (60, .tup [])
  let E42 : EN := (61, .tup [])
  let E43 : EN := (62, .tup [])
  let E44 : EN := (63, .tup [])
  let E45 : EN := (64, .tup [])
  let E46 : EN := (65, .one .top (.bool true))
  let E47 : EN := (66, .one .top (.bool true))
  let E48 : EN := (67, .tup [])
  let E49 : EN := (68, .tup [])
  let E50 : EN := (69, .tup [])
  let E51 : EN := (70, .tup [])
  let E52 : EN := (71, .tup [])
  let E53 : EN := (72, .tup [])
  let E54 : EN := (73, .tup [])
  let E55 : EN := (74, .one .top (.bool true))
  let E56 : EN := (22, .one .top (.bool false))
  let E57 : EN := (23, .one .top (.bool false))
  let E58 : EN := (24, .one .top (.loc 1 1))
  let E59 : EN := (25, .one .top (.int .i64 p0.A_))
  let E60 : EN := (26, .one .top (.bool false))
  let E61 : EN := (27, .one .top (.bool false))
  let E62 : EN := (28, .one .top (.bool false))
  let E63 : EN := (29, .one .top (.loc 1 2))
  let E64 : EN := (30, .one .top (.int .i64 p0.B_))
  let E65 : EN := (31, .one .top (.bool false))
  let E66 : EN := (32, .one .top (.bool false))
  let E67 : EN := (33, .one .top (.bool false))
  let E68 : EN := (34, .one .top (.loc 1 2))
  let E69 : EN := (35, .one .top (.int .i64 p0.B_))
  let E70 : EN := (36, .one .top (.bool false))
  let E71 : EN := (37, .one .top (.bool false))
  let E72 : EN := (38, .one .top (.bool false))
  let E73 : EN := (39, .one .top (.loc 1 3))
  let E74 : EN := (40, .one .top (.int .i64 p0.C_))
  let E75 : EN := (41, .one .top (.bool false))
  let E76 : EN := (42, .one .top (.bool false))
  let E77 : EN := (43, .one .top (.bool false))
  let E78 : EN := (44, .one .top (.loc 1 3))
  let E79 : EN := (45, .one .top (.int .i64 p0.C_))
  let E80 : EN := (46, .one .top (.bool false))
  let E81 : EN := (47, .one .top (.bool false))
  let E82 : EN := (48, .one .top (.bool false))
  let E84 : EN := (50, .one .top (.bool true))
  let E85 : EN := (51, .one .top (.bool true))
  let E86 : EN := (52, .one .top (.loc 1 1))
  let E87 : EN := (53, .one .top (.int .i64 p0.A_))
  let E88 : EN := (54, .one .top (.bool false))
  let E89 : EN := (55, .one .top (.bool false))
  let E90 : EN := (56, .one .top (.bool false))
  let E91 : EN := (57, .one .top (.bool false))
  let E95 : EN := (59, .one .top (.bool true))
  let E96 : EN := (60, .one .top (.bool true))
  let E97 : EN := (61, .one .top (.loc 1 2))
  let E98 : EN := (62, .one .top (.int .i64 p0.B_))
  let E99 : EN := (63, .one .top (.bool (p0.B_ != 0)))
  let E100 : EN := (64, .one .top (.bool (p0.B_ != 0)))
  let E101 : EN := (65, .one .top (.bool (p0.B_ != 0)))
  let E102 : EN := (66, .one .top (.bool (p0.B_ != 0)))
  let E103 : EN := (63, .one .top (.bool true))
  let E104 : EN := (64, .one .top (.bool true))
  let E105 : EN := (63, .one .top (.bool false))
  let E106 : EN := (64, .one .top (.bool false))
  let E107 : EN := (65, .one .top (.bool false))
  let E108 : EN := (66, .one .top (.bool false))
  let E112 : EN := (68, .one .top (.bool true))
  let E113 : EN := (69, .one .top (.bool true))
  let E114 : EN := (70, .one .top (.loc 1 3))
  let E115 : EN := (71, .one .top (.int .i64 p0.C_))
  let E116 : EN := (72, .one .top (.bool (p0.C_ != 0)))
  let E117 : EN := (73, .one .top (.bool (p0.C_ != 0)))
  let E118 : EN := (74, .one .top (.bool (p0.C_ != 0)))
  let E119 : EN := (68, .one .top (.bool false))
  let E120 : EN := (69, .one .top (.bool false))
  let E121 : EN := (73, .one .top (.bool false))
  let E122 : EN := (74, .one .top (.bool false))
  let E123 : EN := (59, .one .top (.bool false))
  let E124 : EN := (60, .one .top (.bool false))
  let E125 : EN := (50, .one .top (.bool false))
  let E126 : EN := (51, .one .top (.bool false))
  let E127 : EN := (2, .one .top (.int .i64 20))
  let E128 : EN := (7, .one .top (.int .i64 0))
  let E129 : EN := (8, .one .top (.int .i64 0))
  let E134 : EN := (85, .one .top (.loc 1 4))
  let E135 : EN := (86, .one .top (.int .i64 p0.Imm_))
  let S139 : St := ⟨[E1], [B2], H⟩
  let S141 : St := ⟨[E1, E4, E5], [B2], H⟩
  let S142 : St := ⟨[], [], H⟩
  refine yf Try.func90 true ⟨[(0, .agg (m0_ref02_Instr p0))], [], H⟩ ?_
  unfold ref02_Check at hF
  refine ysg S139 ?_
  refine w_seq ?_
  obtain ⟨r1, c2, hF⟩ := bind1_inv hF
  let E3 : EN := (3, .one .top (.int .i64 r1))
  let E6 : EN := (11, .one .top (.int .i64 r1))
  let E10 : EN := (15, .one .top (.int .i64 r1))
  let E130 : EN := (75, .one .top (.int .i64 r1))
  let E131 : EN := (76, .one .top (.bool (r1 == 1)))
  let E137 : EN := (79, .one .top (.bool (r1 == 2)))
  let E138 : EN := (79, .one .top (.bool (r1 == 4)))
  let S140 : St := ⟨[E1, E3], [B2], H⟩
  let S143 : St := ⟨[E1, E3, E10], [B2], H⟩
  let S144 : St := ⟨[E1, E128, E129, E130], [B2], H⟩
  let S145 : St := ⟨[E1, E128, E129, E130, E131], [B2], H⟩
  let S146 : St := ⟨[E1, E128, E129, E130, E137], [B2], H⟩
  let S147 : St := ⟨[E1, E128, E129, E130, E138], [B2], H⟩
  refine w_regO S140 ?_ ?_
  refine yr 2 S141 ?_
  refine o_one ⟨[E1, E4, E5, E6], [B2], H⟩ (yc (some 11) true false S141 (ok_ref02_Shape H c2)) ?_
  refine yr 1 ⟨[E1, E3, E4, E5, E6], [B2], H⟩ ?_
  exact ye
  refine w_seq ?_
  refine ysg ⟨[E1, E3, (13, .one .top (.bool (decide (r1 < 0))))], [B2], H⟩ ?_
  rcases if_inv hF with ⟨h3, hF⟩ | ⟨h3, hF⟩
  refine yT h3 S142 ?_
  refine ysg ⟨[(2, .one .top (.int .i64 21))], [], H⟩ ?_
  refine w_ret ?_
  obtain e0 := some1_inv hF
  subst e0
  exact yp (.one .top (.int .i64 21))
  refine yF h3 S140 ?_
  refine w_skip ?_
  refine w_seq ?_
  obtain ⟨r4, r5, r6, c7, hF⟩ := bind3_inv hF
  let E7 : EN := (4, .one .top (.bool r4))
  let E8 : EN := (5, .one .top (.bool r5))
  let E9 : EN := (6, .one .top (.bool r6))
  let E11 : EN := (16, .tup [.one .top (.bool r4), .one .top (.bool r5), .one .top (.bool r6)])
  let E83 : EN := (49, .one .top (.bool r4))
  let E92 : EN := (58, .one .top (.bool r5))
  let E93 : EN := (59, .one .top (.bool (!r5)))
  let E94 : EN := (60, .one .top (.bool (!r5)))
  let E109 : EN := (67, .one .top (.bool r6))
  let E110 : EN := (68, .one .top (.bool (!r6)))
  let E111 : EN := (69, .one .top (.bool (!r6)))
  refine w_regO ⟨[E1, E3, E7, E8, E9], [B2], H⟩ ?_ ?_
  refine yr 1 S143 ?_
  refine o_one ⟨[E1, E3, E10, E11], [B2], H⟩ (yc (some 16) true false S143 (ok_ref02_has H c7)) ?_
  refine yr 7 ⟨[E1, E3, E7, E8, E9, (14, .tup [.one .top (.bool r4), .one .top (.bool r5), .one .top (.bool r6)]), E10, E11, (17, .one .top (.bool r4)), (18, .one .top (.bool r5)), (19, .one .top (.bool r6))], [B2], H⟩ ?_
  exact ye
  refine w_seq ?_
  refine yso ⟨[E1, E3, (74, .one .top (.bool ((decide (p0.A_ < 0)) || ((decide (p0.A_ > 15)) || ((decide (p0.B_ < 0)) || ((decide (p0.B_ > 15)) || ((decide (p0.C_ < 0)) || ((decide (p0.C_ > 15)) || (if (!r4) = true then ((p0.A_ != 0) || (if (!r5) = true then ((p0.B_ != 0) || ((!r6) && (p0.C_ != 0))) else ((!r6) && (p0.C_ != 0)))) else (if (!r5) = true then ((p0.B_ != 0) || ((!r6) && (p0.C_ != 0))) else ((!r6) && (p0.C_ != 0))))))))))))], [B2], H⟩ ?_ ?_
  refine yr 4 ⟨[E1, E3, E7, E8, E9, E12, E13, (22, .one .top (.bool (decide (p0.A_ < 0)))), (23, .one .top (.bool (decide (p0.A_ < 0))))], [B2], H⟩ ?_
  rcases bool_cases (decide (p0.A_ < 0)) with h8 | h8
  refine o_eq (congrArg (fun q => (⟨[E1, E3, E7, E8, E9, E12, E13, (22, .one .top (.bool q)), (23, .one .top (.bool q))], [B2], H⟩ : St)) h8) ?_
  refine yr 51 ⟨[E1, E3, E7, E8, E9, E12, E13, (22, .one .top (.bool true)), (23, .one .top (.bool true)), (24, .tup []), (25, .tup []), (26, .tup []), E14, E15, (29, .tup []), (30, .tup []), (31, .tup []), E16, E17, (34, .tup []), (35, .tup []), (36, .tup []), E18, E19, E20, E21, E22, E23, E24, E25, E26, E27, E28, E29, E30, E31, E32, E33, E34, E35, E36, E37, E38, E39, E40, E41, E42, E43, E44, E45, E46, E47, E48, E49, E50, E51, E52, E53, E54, E55], [B2], H⟩ ?_
  refine o_eq2 (congrArg (fun q0 => (⟨[E1, E3, (74, .one .top (.bool q0))], [B2], H⟩ : St)) (show true = ((decide (p0.A_ < 0)) || ((decide (p0.A_ > 15)) || ((decide (p0.B_ < 0)) || ((decide (p0.B_ > 15)) || ((decide (p0.C_ < 0)) || ((decide (p0.C_ > 15)) || (if (!r4) = true then ((p0.A_ != 0) || (if (!r5) = true then ((p0.B_ != 0) || ((!r6) && (p0.C_ != 0))) else ((!r6) && (p0.C_ != 0)))) else (if (!r5) = true then ((p0.B_ != 0) || ((!r6) && (p0.C_ != 0))) else ((!r6) && (p0.C_ != 0)))))))))) by simp [h8])) ?_
  exact ye
  refine o_eq (congrArg (fun q => (⟨[E1, E3, E7, E8, E9, E12, E13, (22, .one .top (.bool q)), (23, .one .top (.bool q))], [B2], H⟩ : St)) h8) ?_
  refine yr 5 ⟨[E1, E3, E7, E8, E9, E12, E13, E56, E57, E58, E59, (26, .one .top (.bool (decide (p0.A_ > 15)))), (27, .one .top (.bool (decide (p0.A_ > 15)))), (28, .one .top (.bool (decide (p0.A_ > 15))))], [B2], H⟩ ?_
  rcases bool_cases (decide (p0.A_ > 15)) with h9 | h9
  refine o_eq (congrArg (fun q => (⟨[E1, E3, E7, E8, E9, E12, E13, E56, E57, E58, E59, (26, .one .top (.bool q)), (27, .one .top (.bool q)), (28, .one .top (.bool q))], [B2], H⟩ : St)) h9) ?_
  refine yr 46 ⟨[E1, E3, E7, E8, E9, E12, E13, E56, E57, E58, E59, (26, .one .top (.bool true)), E14, E15, (29, .tup []), (30, .tup []), (31, .tup []), E16, E17, (34, .tup []), (35, .tup []), (36, .tup []), E18, E19, E20, E21, E22, E23, E24, E25, E26, E27, E28, E29, E30, E31, E32, E33, E34, E35, E36, E37, E38, E39, E40, E41, E42, E43, E44, E45, E46, E47, E48, E49, E50, E51, E52, E53, E54, E55], [B2], H⟩ ?_
  refine o_eq2 (congrArg (fun q0 => (⟨[E1, E3, (74, .one .top (.bool q0))], [B2], H⟩ : St)) (show true = ((decide (p0.A_ < 0)) || ((decide (p0.A_ > 15)) || ((decide (p0.B_ < 0)) || ((decide (p0.B_ > 15)) || ((decide (p0.C_ < 0)) || ((decide (p0.C_ > 15)) || (if (!r4) = true then ((p0.A_ != 0) || (if (!r5) = true then ((p0.B_ != 0) || ((!r6) && (p0.C_ != 0))) else ((!r6) && (p0.C_ != 0)))) else (if (!r5) = true then ((p0.B_ != 0) || ((!r6) && (p0.C_ != 0))) else ((!r6) && (p0.C_ != 0)))))))))) by simp [h8, h9])) ?_
  exact ye
  refine o_eq (congrArg (fun q => (⟨[E1, E3, E7, E8, E9, E12, E13, E56, E57, E58, E59, (26, .one .top (.bool q)), (27, .one .top (.bool q)), (28, .one .top (.bool q))], [B2], H⟩ : St)) h9) ?_
  refine yr 5 ⟨[E1, E3, E7, E8, E9, E12, E13, E56, E57, E58, E59, E60, E61, E62, E63, E64, (31, .one .top (.bool (decide (p0.B_ < 0)))), (32, .one .top (.bool (decide (p0.B_ < 0)))), (33, .one .top (.bool (decide (p0.B_ < 0))))], [B2], H⟩ ?_
  rcases bool_cases (decide (p0.B_ < 0)) with h10 | h10
  refine o_eq (congrArg (fun q => (⟨[E1, E3, E7, E8, E9, E12, E13, E56, E57, E58, E59, E60, E61, E62, E63, E64, (31, .one .top (.bool q)), (32, .one .top (.bool q)), (33, .one .top (.bool q))], [B2], H⟩ : St)) h10) ?_
  refine yr 41 ⟨[E1, E3, E7, E8, E9, E12, E13, E56, E57, E58, E59, E60, E61, E62, E63, E64, (31, .one .top (.bool true)), E16, E17, (34, .tup []), (35, .tup []), (36, .tup []), E18, E19, E20, E21, E22, E23, E24, E25, E26, E27, E28, E29, E30, E31, E32, E33, E34, E35, E36, E37, E38, E39, E40, E41, E42, E43, E44, E45, E46, E47, E48, E49, E50, E51, E52, E53, E54, E55], [B2], H⟩ ?_
  refine o_eq2 (congrArg (fun q0 => (⟨[E1, E3, (74, .one .top (.bool q0))], [B2], H⟩ : St)) (show true = ((decide (p0.A_ < 0)) || ((decide (p0.A_ > 15)) || ((decide (p0.B_ < 0)) || ((decide (p0.B_ > 15)) || ((decide (p0.C_ < 0)) || ((decide (p0.C_ > 15)) || (if (!r4) = true then ((p0.A_ != 0) || (if (!r5) = true then ((p0.B_ != 0) || ((!r6) && (p0.C_ != 0))) else ((!r6) && (p0.C_ != 0)))) else (if (!r5) = true then ((p0.B_ != 0) || ((!r6) && (p0.C_ != 0))) else ((!r6) && (p0.C_ != 0)))))))))) by simp [h8, h9, h10])) ?_
  exact ye
  refine o_eq (congrArg (fun q => (⟨[E1, E3, E7, E8, E9, E12, E13, E56, E57, E58, E59, E60, E61, E62, E63, E64, (31, .one .top (.bool q)), (32, .one .top (.bool q)), (33, .one .top (.bool q))], [B2], H⟩ : St)) h10) ?_
  refine yr 5 ⟨[E1, E3, E7, E8, E9, E12, E13, E56, E57, E58, E59, E60, E61, E62, E63, E64, E65, E66, E67, E68, E69, (36, .one .top (.bool (decide (p0.B_ > 15)))), (37, .one .top (.bool (decide (p0.B_ > 15)))), (38, .one .top (.bool (decide (p0.B_ > 15))))], [B2], H⟩ ?_
  rcases bool_cases (decide (p0.B_ > 15)) with h11 | h11
  refine o_eq (congrArg (fun q => (⟨[E1, E3, E7, E8, E9, E12, E13, E56, E57, E58, E59, E60, E61, E62, E63, E64, E65, E66, E67, E68, E69, (36, .one .top (.bool q)), (37, .one .top (.bool q)), (38, .one .top (.bool q))], [B2], H⟩ : St)) h11) ?_
  refine yr 36 ⟨[E1, E3, E7, E8, E9, E12, E13, E56, E57, E58, E59, E60, E61, E62, E63, E64, E65, E66, E67, E68, E69, (36, .one .top (.bool true)), E18, E19, E20, E21, E22, E23, E24, E25, E26, E27, E28, E29, E30, E31, E32, E33, E34, E35, E36, E37, E38, E39, E40, E41, E42, E43, E44, E45, E46, E47, E48, E49, E50, E51, E52, E53, E54, E55], [B2], H⟩ ?_
  refine o_eq2 (congrArg (fun q0 => (⟨[E1, E3, (74, .one .top (.bool q0))], [B2], H⟩ : St)) (show true = ((decide (p0.A_ < 0)) || ((decide (p0.A_ > 15)) || ((decide (p0.B_ < 0)) || ((decide (p0.B_ > 15)) || ((decide (p0.C_ < 0)) || ((decide (p0.C_ > 15)) || (if (!r4) = true then ((p0.A_ != 0) || (if (!r5) = true then ((p0.B_ != 0) || ((!r6) && (p0.C_ != 0))) else ((!r6) && (p0.C_ != 0)))) else (if (!r5) = true then ((p0.B_ != 0) || ((!r6) && (p0.C_ != 0))) else ((!r6) && (p0.C_ != 0)))))))))) by simp [h8, h9, h10, h11])) ?_
  exact ye
  refine o_eq (congrArg (fun q => (⟨[E1, E3, E7, E8, E9, E12, E13, E56, E57, E58, E59, E60, E61, E62, E63, E64, E65, E66, E67, E68, E69, (36, .one .top (.bool q)), (37, .one .top (.bool q)), (38, .one .top (.bool q))], [B2], H⟩ : St)) h11) ?_
  refine yr 5 ⟨[E1, E3, E7, E8, E9, E12, E13, E56, E57, E58, E59, E60, E61, E62, E63, E64, E65, E66, E67, E68, E69, E70, E71, E72, E73, E74, (41, .one .top (.bool (decide (p0.C_ < 0)))), (42, .one .top (.bool (decide (p0.C_ < 0)))), (43, .one .top (.bool (decide (p0.C_ < 0))))], [B2], H⟩ ?_
  rcases bool_cases (decide (p0.C_ < 0)) with h12 | h12
  refine o_eq (congrArg (fun q => (⟨[E1, E3, E7, E8, E9, E12, E13, E56, E57, E58, E59, E60, E61, E62, E63, E64, E65, E66, E67, E68, E69, E70, E71, E72, E73, E74, (41, .one .top (.bool q)), (42, .one .top (.bool q)), (43, .one .top (.bool q))], [B2], H⟩ : St)) h12) ?_
  refine yr 31 ⟨[E1, E3, E7, E8, E9, E12, E13, E56, E57, E58, E59, E60, E61, E62, E63, E64, E65, E66, E67, E68, E69, E70, E71, E72, E73, E74, (41, .one .top (.bool true)), E23, E24, E25, E26, E27, E28, E29, E30, E31, E32, E33, E34, E35, E36, E37, E38, E39, E40, E41, E42, E43, E44, E45, E46, E47, E48, E49, E50, E51, E52, E53, E54, E55], [B2], H⟩ ?_
  refine o_eq2 (congrArg (fun q0 => (⟨[E1, E3, (74, .one .top (.bool q0))], [B2], H⟩ : St)) (show true = ((decide (p0.A_ < 0)) || ((decide (p0.A_ > 15)) || ((decide (p0.B_ < 0)) || ((decide (p0.B_ > 15)) || ((decide (p0.C_ < 0)) || ((decide (p0.C_ > 15)) || (if (!r4) = true then ((p0.A_ != 0) || (if (!r5) = true then ((p0.B_ != 0) || ((!r6) && (p0.C_ != 0))) else ((!r6) && (p0.C_ != 0)))) else (if (!r5) = true then ((p0.B_ != 0) || ((!r6) && (p0.C_ != 0))) else ((!r6) && (p0.C_ != 0)))))))))) by simp [h8, h9, h10, h11, h12])) ?_
  exact ye
  refine o_eq (congrArg (fun q => (⟨[E1, E3, E7, E8, E9, E12, E13, E56, E57, E58, E59, E60, E61, E62, E63, E64, E65, E66, E67, E68, E69, E70, E71, E72, E73, E74, (41, .one .top (.bool q)), (42, .one .top (.bool q)), (43, .one .top (.bool q))], [B2], H⟩ : St)) h12) ?_
  refine yr 5 ⟨[E1, E3, E7, E8, E9, E12, E13, E56, E57, E58, E59, E60, E61, E62, E63, E64, E65, E66, E67, E68, E69, E70, E71, E72, E73, E74, E75, E76, E77, E78, E79, (46, .one .top (.bool (decide (p0.C_ > 15)))), (47, .one .top (.bool (decide (p0.C_ > 15)))), (48, .one .top (.bool (decide (p0.C_ > 15))))], [B2], H⟩ ?_
  rcases bool_cases (decide (p0.C_ > 15)) with h13 | h13
  refine o_eq (congrArg (fun q => (⟨[E1, E3, E7, E8, E9, E12, E13, E56, E57, E58, E59, E60, E61, E62, E63, E64, E65, E66, E67, E68, E69, E70, E71, E72, E73, E74, E75, E76, E77, E78, E79, (46, .one .top (.bool q)), (47, .one .top (.bool q)), (48, .one .top (.bool q))], [B2], H⟩ : St)) h13) ?_
  refine yr 26 ⟨[E1, E3, E7, E8, E9, E12, E13, E56, E57, E58, E59, E60, E61, E62, E63, E64, E65, E66, E67, E68, E69, E70, E71, E72, E73, E74, E75, E76, E77, E78, E79, (46, .one .top (.bool true)), E28, E29, E30, E31, E32, E33, E34, E35, E36, E37, E38, E39, E40, E41, E42, E43, E44, E45, E46, E47, E48, E49, E50, E51, E52, E53, E54, E55], [B2], H⟩ ?_
  refine o_eq2 (congrArg (fun q0 => (⟨[E1, E3, (74, .one .top (.bool q0))], [B2], H⟩ : St)) (show true = ((decide (p0.A_ < 0)) || ((decide (p0.A_ > 15)) || ((decide (p0.B_ < 0)) || ((decide (p0.B_ > 15)) || ((decide (p0.C_ < 0)) || ((decide (p0.C_ > 15)) || (if (!r4) = true then ((p0.A_ != 0) || (if (!r5) = true then ((p0.B_ != 0) || ((!r6) && (p0.C_ != 0))) else ((!r6) && (p0.C_ != 0)))) else (if (!r5) = true then ((p0.B_ != 0) || ((!r6) && (p0.C_ != 0))) else ((!r6) && (p0.C_ != 0)))))))))) by simp [h8, h9, h10, h11, h12, h13])) ?_
  exact ye
  refine o_eq (congrArg (fun q => (⟨[E1, E3, E7, E8, E9, E12, E13, E56, E57, E58, E59, E60, E61, E62, E63, E64, E65, E66, E67, E68, E69, E70, E71, E72, E73, E74, E75, E76, E77, E78, E79, (46, .one .top (.bool q)), (47, .one .top (.bool q)), (48, .one .top (.bool q))], [B2], H⟩ : St)) h13) ?_
  refine yr 3 ⟨[E1, E3, E7, E8, E9, E12, E13, E56, E57, E58, E59, E60, E61, E62, E63, E64, E65, E66, E67, E68, E69, E70, E71, E72, E73, E74, E75, E76, E77, E78, E79, E80, E81, E82, E83, (50, .one .top (.bool (!r4))), (51, .one .top (.bool (!r4)))], [B2], H⟩ ?_
  rcases bool_cases (!r4) with h14 | h14
  refine o_eq (congrArg (fun q => (⟨[E1, E3, E7, E8, E9, E12, E13, E56, E57, E58, E59, E60, E61, E62, E63, E64, E65, E66, E67, E68, E69, E70, E71, E72, E73, E74, E75, E76, E77, E78, E79, E80, E81, E82, E83, (50, .one .top (.bool q)), (51, .one .top (.bool q))], [B2], H⟩ : St)) h14) ?_
  refine yr 6 ⟨[E1, E3, E7, E8, E9, E12, E13, E56, E57, E58, E59, E60, E61, E62, E63, E64, E65, E66, E67, E68, E69, E70, E71, E72, E73, E74, E75, E76, E77, E78, E79, E80, E81, E82, E83, E84, E85, E86, E87, (54, .one .top (.bool (p0.A_ != 0))), (55, .one .top (.bool (p0.A_ != 0))), (56, .one .top (.bool (p0.A_ != 0))), (57, .one .top (.bool (p0.A_ != 0)))], [B2], H⟩ ?_
  rcases bool_cases (p0.A_ != 0) with h15 | h15
  refine o_eq (congrArg (fun q => (⟨[E1, E3, E7, E8, E9, E12, E13, E56, E57, E58, E59, E60, E61, E62, E63, E64, E65, E66, E67, E68, E69, E70, E71, E72, E73, E74, E75, E76, E77, E78, E79, E80, E81, E82, E83, E84, E85, E86, E87, (54, .one .top (.bool q)), (55, .one .top (.bool q)), (56, .one .top (.bool q)), (57, .one .top (.bool q))], [B2], H⟩ : St)) h15) ?_
  refine yr 17 ⟨[E1, E3, E7, E8, E9, E12, E13, E56, E57, E58, E59, E60, E61, E62, E63, E64, E65, E66, E67, E68, E69, E70, E71, E72, E73, E74, E75, E76, E77, E78, E79, E80, E81, E82, E83, E84, E85, E86, E87, (54, .one .top (.bool true)), (55, .one .top (.bool true)), E37, E38, E39, E40, E41, E42, E43, E44, E45, E46, E47, E48, E49, E50, E51, E52, E53, E54, E55], [B2], H⟩ ?_
  refine o_eq2 (congrArg (fun q0 => (⟨[E1, E3, (74, .one .top (.bool q0))], [B2], H⟩ : St)) (show true = ((decide (p0.A_ < 0)) || ((decide (p0.A_ > 15)) || ((decide (p0.B_ < 0)) || ((decide (p0.B_ > 15)) || ((decide (p0.C_ < 0)) || ((decide (p0.C_ > 15)) || (if (!r4) = true then ((p0.A_ != 0) || (if (!r5) = true then ((p0.B_ != 0) || ((!r6) && (p0.C_ != 0))) else ((!r6) && (p0.C_ != 0)))) else (if (!r5) = true then ((p0.B_ != 0) || ((!r6) && (p0.C_ != 0))) else ((!r6) && (p0.C_ != 0)))))))))) by simp [h8, h9, h10, h11, h12, h13, h14, h15])) ?_
  exact ye
  refine o_eq (congrArg (fun q => (⟨[E1, E3, E7, E8, E9, E12, E13, E56, E57, E58, E59, E60, E61, E62, E63, E64, E65, E66, E67, E68, E69, E70, E71, E72, E73, E74, E75, E76, E77, E78, E79, E80, E81, E82, E83, E84, E85, E86, E87, (54, .one .top (.bool q)), (55, .one .top (.bool q)), (56, .one .top (.bool q)), (57, .one .top (.bool q))], [B2], H⟩ : St)) h15) ?_
  refine yr 3 ⟨[E1, E3, E7, E8, E9, E12, E13, E56, E57, E58, E59, E60, E61, E62, E63, E64, E65, E66, E67, E68, E69, E70, E71, E72, E73, E74, E75, E76, E77, E78, E79, E80, E81, E82, E83, E84, E85, E86, E87, E88, E89, E90, E91, E92, E93, E94], [B2], H⟩ ?_
  rcases bool_cases (!r5) with h16 | h16
  refine o_eq (congrArg (fun q => (⟨[E1, E3, E7, E8, E9, E12, E13, E56, E57, E58, E59, E60, E61, E62, E63, E64, E65, E66, E67, E68, E69, E70, E71, E72, E73, E74, E75, E76, E77, E78, E79, E80, E81, E82, E83, E84, E85, E86, E87, E88, E89, E90, E91, E92, (59, .one .top (.bool q)), (60, .one .top (.bool q))], [B2], H⟩ : St)) h16) ?_
  refine yr 6 ⟨[E1, E3, E7, E8, E9, E12, E13, E56, E57, E58, E59, E60, E61, E62, E63, E64, E65, E66, E67, E68, E69, E70, E71, E72, E73, E74, E75, E76, E77, E78, E79, E80, E81, E82, E83, E84, E85, E86, E87, E88, E89, E90, E91, E92, E95, E96, E97, E98, E99, E100, E101, E102], [B2], H⟩ ?_
  rcases bool_cases (p0.B_ != 0) with h17 | h17
  refine o_eq (congrArg (fun q => (⟨[E1, E3, E7, E8, E9, E12, E13, E56, E57, E58, E59, E60, E61, E62, E63, E64, E65, E66, E67, E68, E69, E70, E71, E72, E73, E74, E75, E76, E77, E78, E79, E80, E81, E82, E83, E84, E85, E86, E87, E88, E89, E90, E91, E92, E95, E96, E97, E98, (63, .one .top (.bool q)), (64, .one .top (.bool q)), (65, .one .top (.bool q)), (66, .one .top (.bool q))], [B2], H⟩ : St)) h17) ?_
  refine yr 8 ⟨[E1, E3, E7, E8, E9, E12, E13, E56, E57, E58, E59, E60, E61, E62, E63, E64, E65, E66, E67, E68, E69, E70, E71, E72, E73, E74, E75, E76, E77, E78, E79, E80, E81, E82, E83, E84, E85, E86, E87, E88, E89, E90, E91, E92, E95, E96, E97, E98, E103, E104, E46, E47, E48, E49, E50, E51, E52, E53, E54, E55], [B2], H⟩ ?_
  refine o_eq2 (congrArg (fun q0 => (⟨[E1, E3, (74, .one .top (.bool q0))], [B2], H⟩ : St)) (show true = ((decide (p0.A_ < 0)) || ((decide (p0.A_ > 15)) || ((decide (p0.B_ < 0)) || ((decide (p0.B_ > 15)) || ((decide (p0.C_ < 0)) || ((decide (p0.C_ > 15)) || (if (!r4) = true then ((p0.A_ != 0) || (if (!r5) = true then ((p0.B_ != 0) || ((!r6) && (p0.C_ != 0))) else ((!r6) && (p0.C_ != 0)))) else (if (!r5) = true then ((p0.B_ != 0) || ((!r6) && (p0.C_ != 0))) else ((!r6) && (p0.C_ != 0)))))))))) by simp [h8, h9, h10, h11, h12, h13, h14, h15, h16, h17])) ?_
  exact ye
  refine o_eq (congrArg (fun q => (⟨[E1, E3, E7, E8, E9, E12, E13, E56, E57, E58, E59, E60, E61, E62, E63, E64, E65, E66, E67, E68, E69, E70, E71, E72, E73, E74, E75, E76, E77, E78, E79, E80, E81, E82, E83, E84, E85, E86, E87, E88, E89, E90, E91, E92, E95, E96, E97, E98, (63, .one .top (.bool q)), (64, .one .top (.bool q)), (65, .one .top (.bool q)), (66, .one .top (.bool q))], [B2], H⟩ : St)) h17) ?_
  refine yr 3 ⟨[E1, E3, E7, E8, E9, E12, E13, E56, E57, E58, E59, E60, E61, E62, E63, E64, E65, E66, E67, E68, E69, E70, E71, E72, E73, E74, E75, E76, E77, E78, E79, E80, E81, E82, E83, E84, E85, E86, E87, E88, E89, E90, E91, E92, E95, E96, E97, E98, E105, E106, E107, E108, E109, E110, E111], [B2], H⟩ ?_
  rcases bool_cases (!r6) with h18 | h18
  refine o_eq (congrArg (fun q => (⟨[E1, E3, E7, E8, E9, E12, E13, E56, E57, E58, E59, E60, E61, E62, E63, E64, E65, E66, E67, E68, E69, E70, E71, E72, E73, E74, E75, E76, E77, E78, E79, E80, E81, E82, E83, E84, E85, E86, E87, E88, E89, E90, E91, E92, E95, E96, E97, E98, E105, E106, E107, E108, E109, (68, .one .top (.bool q)), (69, .one .top (.bool q))], [B2], H⟩ : St)) h18) ?_
  refine yr 5 ⟨[E1, E3, E7, E8, E9, E12, E13, E56, E57, E58, E59, E60, E61, E62, E63, E64, E65, E66, E67, E68, E69, E70, E71, E72, E73, E74, E75, E76, E77, E78, E79, E80, E81, E82, E83, E84, E85, E86, E87, E88, E89, E90, E91, E92, E95, E96, E97, E98, E105, E106, E107, E108, E109, E112, E113, E114, E115, E116, E117, E118], [B2], H⟩ ?_
  refine o_eq2 (congrArg (fun q0 => (⟨[E1, E3, (74, .one .top (.bool q0))], [B2], H⟩ : St)) (show (p0.C_ != 0) = ((decide (p0.A_ < 0)) || ((decide (p0.A_ > 15)) || ((decide (p0.B_ < 0)) || ((decide (p0.B_ > 15)) || ((decide (p0.C_ < 0)) || ((decide (p0.C_ > 15)) || (if (!r4) = true then ((p0.A_ != 0) || (if (!r5) = true then ((p0.B_ != 0) || ((!r6) && (p0.C_ != 0))) else ((!r6) && (p0.C_ != 0)))) else (if (!r5) = true then ((p0.B_ != 0) || ((!r6) && (p0.C_ != 0))) else ((!r6) && (p0.C_ != 0)))))))))) by simp [h8, h9, h10, h11, h12, h13, h14, h15, h16, h17, h18])) ?_
  exact ye
  refine o_eq (congrArg (fun q => (⟨[E1, E3, E7, E8, E9, E12, E13, E56, E57, E58, E59, E60, E61, E62, E63, E64, E65, E66, E67, E68, E69, E70, E71, E72, E73, E74, E75, E76, E77, E78, E79, E80, E81, E82, E83, E84, E85, E86, E87, E88, E89, E90, E91, E92, E95, E96, E97, E98, E105, E106, E107, E108, E109, (68, .one .top (.bool q)), (69, .one .top (.bool q))], [B2], H⟩ : St)) h18) ?_
  refine yr 5 ⟨[E1, E3, E7, E8, E9, E12, E13, E56, E57, E58, E59, E60, E61, E62, E63, E64, E65, E66, E67, E68, E69, E70, E71, E72, E73, E74, E75, E76, E77, E78, E79, E80, E81, E82, E83, E84, E85, E86, E87, E88, E89, E90, E91, E92, E95, E96, E97, E98, E105, E106, E107, E108, E109, E119, E120, E51, E52, E53, E121, E122], [B2], H⟩ ?_
  refine o_eq2 (congrArg (fun q0 => (⟨[E1, E3, (74, .one .top (.bool q0))], [B2], H⟩ : St)) (show false = ((decide (p0.A_ < 0)) || ((decide (p0.A_ > 15)) || ((decide (p0.B_ < 0)) || ((decide (p0.B_ > 15)) || ((decide (p0.C_ < 0)) || ((decide (p0.C_ > 15)) || (if (!r4) = true then ((p0.A_ != 0) || (if (!r5) = true then ((p0.B_ != 0) || ((!r6) && (p0.C_ != 0))) else ((!r6) && (p0.C_ != 0)))) else (if (!r5) = true then ((p0.B_ != 0) || ((!r6) && (p0.C_ != 0))) else ((!r6) && (p0.C_ != 0)))))))))) by simp [h8, h9, h10, h11, h12, h13, h14, h15, h16, h17, h18])) ?_
  exact ye
  refine o_eq (congrArg (fun q => (⟨[E1, E3, E7, E8, E9, E12, E13, E56, E57, E58, E59, E60, E61, E62, E63, E64, E65, E66, E67, E68, E69, E70, E71, E72, E73, E74, E75, E76, E77, E78, E79, E80, E81, E82, E83, E84, E85, E86, E87, E88, E89, E90, E91, E92, (59, .one .top (.bool q)), (60, .one .top (.bool q))], [B2], H⟩ : St)) h16) ?_
  refine yr 9 ⟨[E1, E3, E7, E8, E9, E12, E13, E56, E57, E58, E59, E60, E61, E62, E63, E64, E65, E66, E67, E68, E69, E70, E71, E72, E73, E74, E75, E76, E77, E78, E79, E80, E81, E82, E83, E84, E85, E86, E87, E88, E89, E90, E91, E92, E123, E124, E42, E43, E44, E106, E107, E108, E109, E110, E111], [B2], H⟩ ?_
  rcases bool_cases (!r6) with h19 | h19
  refine o_eq (congrArg (fun q => (⟨[E1, E3, E7, E8, E9, E12, E13, E56, E57, E58, E59, E60, E61, E62, E63, E64, E65, E66, E67, E68, E69, E70, E71, E72, E73, E74, E75, E76, E77, E78, E79, E80, E81, E82, E83, E84, E85, E86, E87, E88, E89, E90, E91, E92, E123, E124, E42, E43, E44, E106, E107, E108, E109, (68, .one .top (.bool q)), (69, .one .top (.bool q))], [B2], H⟩ : St)) h19) ?_
  refine yr 5 ⟨[E1, E3, E7, E8, E9, E12, E13, E56, E57, E58, E59, E60, E61, E62, E63, E64, E65, E66, E67, E68, E69, E70, E71, E72, E73, E74, E75, E76, E77, E78, E79, E80, E81, E82, E83, E84, E85, E86, E87, E88, E89, E90, E91, E92, E123, E124, E42, E43, E44, E106, E107, E108, E109, E112, E113, E114, E115, E116, E117, E118], [B2], H⟩ ?_
  refine o_eq2 (congrArg (fun q0 => (⟨[E1, E3, (74, .one .top (.bool q0))], [B2], H⟩ : St)) (show (p0.C_ != 0) = ((decide (p0.A_ < 0)) || ((decide (p0.A_ > 15)) || ((decide (p0.B_ < 0)) || ((decide (p0.B_ > 15)) || ((decide (p0.C_ < 0)) || ((decide (p0.C_ > 15)) || (if (!r4) = true then ((p0.A_ != 0) || (if (!r5) = true then ((p0.B_ != 0) || ((!r6) && (p0.C_ != 0))) else ((!r6) && (p0.C_ != 0)))) else (if (!r5) = true then ((p0.B_ != 0) || ((!r6) && (p0.C_ != 0))) else ((!r6) && (p0.C_ != 0)))))))))) by simp [h8, h9, h10, h11, h12, h13, h14, h15, h16, h19])) ?_
  exact ye
  refine o_eq (congrArg (fun q => (⟨[E1, E3, E7, E8, E9, E12, E13, E56, E57, E58, E59, E60, E61, E62, E63, E64, E65, E66, E67, E68, E69, E70, E71, E72, E73, E74, E75, E76, E77, E78, E79, E80, E81, E82, E83, E84, E85, E86, E87, E88, E89, E90, E91, E92, E123, E124, E42, E43, E44, E106, E107, E108, E109, (68, .one .top (.bool q)), (69, .one .top (.bool q))], [B2], H⟩ : St)) h19) ?_
  refine yr 5 ⟨[E1, E3, E7, E8, E9, E12, E13, E56, E57, E58, E59, E60, E61, E62, E63, E64, E65, E66, E67, E68, E69, E70, E71, E72, E73, E74, E75, E76, E77, E78, E79, E80, E81, E82, E83, E84, E85, E86, E87, E88, E89, E90, E91, E92, E123, E124, E42, E43, E44, E106, E107, E108, E109, E119, E120, E51, E52, E53, E121, E122], [B2], H⟩ ?_
  refine o_eq2 (congrArg (fun q0 => (⟨[E1, E3, (74, .one .top (.bool q0))], [B2], H⟩ : St)) (show false = ((decide (p0.A_ < 0)) || ((decide (p0.A_ > 15)) || ((decide (p0.B_ < 0)) || ((decide (p0.B_ > 15)) || ((decide (p0.C_ < 0)) || ((decide (p0.C_ > 15)) || (if (!r4) = true then ((p0.A_ != 0) || (if (!r5) = true then ((p0.B_ != 0) || ((!r6) && (p0.C_ != 0))) else ((!r6) && (p0.C_ != 0)))) else (if (!r5) = true then ((p0.B_ != 0) || ((!r6) && (p0.C_ != 0))) else ((!r6) && (p0.C_ != 0)))))))))) by simp [h8, h9, h10, h11, h12, h13, h14, h15, h16, h19])) ?_
  exact ye
  refine o_eq (congrArg (fun q => (⟨[E1, E3, E7, E8, E9, E12, E13, E56, E57, E58, E59, E60, E61, E62, E63, E64, E65, E66, E67, E68, E69, E70, E71, E72, E73, E74, E75, E76, E77, E78, E79, E80, E81, E82, E83, (50, .one .top (.bool q)), (51, .one .top (.bool q))], [B2], H⟩ : St)) h14) ?_
  refine yr 9 ⟨[E1, E3, E7, E8, E9, E12, E13, E56, E57, E58, E59, E60, E61, E62, E63, E64, E65, E66, E67, E68, E69, E70, E71, E72, E73, E74, E75, E76, E77, E78, E79, E80, E81, E82, E83, E125, E126, E33, E34, E35, E89, E90, E91, E92, E93, E94], [B2], H⟩ ?_
  rcases bool_cases (!r5) with h20 | h20
  refine o_eq (congrArg (fun q => (⟨[E1, E3, E7, E8, E9, E12, E13, E56, E57, E58, E59, E60, E61, E62, E63, E64, E65, E66, E67, E68, E69, E70, E71, E72, E73, E74, E75, E76, E77, E78, E79, E80, E81, E82, E83, E125, E126, E33, E34, E35, E89, E90, E91, E92, (59, .one .top (.bool q)), (60, .one .top (.bool q))], [B2], H⟩ : St)) h20) ?_
  refine yr 6 ⟨[E1, E3, E7, E8, E9, E12, E13, E56, E57, E58, E59, E60, E61, E62, E63, E64, E65, E66, E67, E68, E69, E70, E71, E72, E73, E74, E75, E76, E77, E78, E79, E80, E81, E82, E83, E125, E126, E33, E34, E35, E89, E90, E91, E92, E95, E96, E97, E98, E99, E100, E101, E102], [B2], H⟩ ?_
  rcases bool_cases (p0.B_ != 0) with h21 | h21
  refine o_eq (congrArg (fun q => (⟨[E1, E3, E7, E8, E9, E12, E13, E56, E57, E58, E59, E60, E61, E62, E63, E64, E65, E66, E67, E68, E69, E70, E71, E72, E73, E74, E75, E76, E77, E78, E79, E80, E81, E82, E83, E125, E126, E33, E34, E35, E89, E90, E91, E92, E95, E96, E97, E98, (63, .one .top (.bool q)), (64, .one .top (.bool q)), (65, .one .top (.bool q)), (66, .one .top (.bool q))], [B2], H⟩ : St)) h21) ?_
  refine yr 8 ⟨[E1, E3, E7, E8, E9, E12, E13, E56, E57, E58, E59, E60, E61, E62, E63, E64, E65, E66, E67, E68, E69, E70, E71, E72, E73, E74, E75, E76, E77, E78, E79, E80, E81, E82, E83, E125, E126, E33, E34, E35, E89, E90, E91, E92, E95, E96, E97, E98, E103, E104, E46, E47, E48, E49, E50, E51, E52, E53, E54, E55], [B2], H⟩ ?_
  refine o_eq2 (congrArg (fun q0 => (⟨[E1, E3, (74, .one .top (.bool q0))], [B2], H⟩ : St)) (show true = ((decide (p0.A_ < 0)) || ((decide (p0.A_ > 15)) || ((decide (p0.B_ < 0)) || ((decide (p0.B_ > 15)) || ((decide (p0.C_ < 0)) || ((decide (p0.C_ > 15)) || (if (!r4) = true then ((p0.A_ != 0) || (if (!r5) = true then ((p0.B_ != 0) || ((!r6) && (p0.C_ != 0))) else ((!r6) && (p0.C_ != 0)))) else (if (!r5) = true then ((p0.B_ != 0) || ((!r6) && (p0.C_ != 0))) else ((!r6) && (p0.C_ != 0)))))))))) by simp [h8, h9, h10, h11, h12, h13, h14, h20, h21])) ?_
  exact ye
  refine o_eq (congrArg (fun q => (⟨[E1, E3, E7, E8, E9, E12, E13, E56, E57, E58, E59, E60, E61, E62, E63, E64, E65, E66, E67, E68, E69, E70, E71, E72, E73, E74, E75, E76, E77, E78, E79, E80, E81, E82, E83, E125, E126, E33, E34, E35, E89, E90, E91, E92, E95, E96, E97, E98, (63, .one .top (.bool q)), (64, .one .top (.bool q)), (65, .one .top (.bool q)), (66, .one .top (.bool q))], [B2], H⟩ : St)) h21) ?_
  refine yr 3 ⟨[E1, E3, E7, E8, E9, E12, E13, E56, E57, E58, E59, E60, E61, E62, E63, E64, E65, E66, E67, E68, E69, E70, E71, E72, E73, E74, E75, E76, E77, E78, E79, E80, E81, E82, E83, E125, E126, E33, E34, E35, E89, E90, E91, E92, E95, E96, E97, E98, E105, E106, E107, E108, E109, E110, E111], [B2], H⟩ ?_
  rcases bool_cases (!r6) with h22 | h22
  refine o_eq (congrArg (fun q => (⟨[E1, E3, E7, E8, E9, E12, E13, E56, E57, E58, E59, E60, E61, E62, E63, E64, E65, E66, E67, E68, E69, E70, E71, E72, E73, E74, E75, E76, E77, E78, E79, E80, E81, E82, E83, E125, E126, E33, E34, E35, E89, E90, E91, E92, E95, E96, E97, E98, E105, E106, E107, E108, E109, (68, .one .top (.bool q)), (69, .one .top (.bool q))], [B2], H⟩ : St)) h22) ?_
  refine yr 5 ⟨[E1, E3, E7, E8, E9, E12, E13, E56, E57, E58, E59, E60, E61, E62, E63, E64, E65, E66, E67, E68, E69, E70, E71, E72, E73, E74, E75, E76, E77, E78, E79, E80, E81, E82, E83, E125, E126, E33, E34, E35, E89, E90, E91, E92, E95, E96, E97, E98, E105, E106, E107, E108, E109, E112, E113, E114, E115, E116, E117, E118], [B2], H⟩ ?_
  refine o_eq2 (congrArg (fun q0 => (⟨[E1, E3, (74, .one .top (.bool q0))], [B2], H⟩ : St)) (show (p0.C_ != 0) = ((decide (p0.A_ < 0)) || ((decide (p0.A_ > 15)) || ((decide (p0.B_ < 0)) || ((decide (p0.B_ > 15)) || ((decide (p0.C_ < 0)) || ((decide (p0.C_ > 15)) || (if (!r4) = true then ((p0.A_ != 0) || (if (!r5) = true then ((p0.B_ != 0) || ((!r6) && (p0.C_ != 0))) else ((!r6) && (p0.C_ != 0)))) else (if (!r5) = true then ((p0.B_ != 0) || ((!r6) && (p0.C_ != 0))) else ((!r6) && (p0.C_ != 0)))))))))) by simp [h8, h9, h10, h11, h12, h13, h14, h20, h21, h22])) ?_
  exact ye
  refine o_eq (congrArg (fun q => (⟨[E1, E3, E7, E8, E9, E12, E13, E56, E57, E58, E59, E60, E61, E62, E63, E64, E65, E66, E67, E68, E69, E70, E71, E72, E73, E74, E75, E76, E77, E78, E79, E80, E81, E82, E83, E125, E126, E33, E34, E35, E89, E90, E91, E92, E95, E96, E97, E98, E105, E106, E107, E108, E109, (68, .one .top (.bool q)), (69, .one .top (.bool q))], [B2], H⟩ : St)) h22) ?_
  refine yr 5 ⟨[E1, E3, E7, E8, E9, E12, E13, E56, E57, E58, E59, E60, E61, E62, E63, E64, E65, E66, E67, E68, E69, E70, E71, E72, E73, E74, E75, E76, E77, E78, E79, E80, E81, E82, E83, E125, E126, E33, E34, E35, E89, E90, E91, E92, E95, E96, E97, E98, E105, E106, E107, E108, E109, E119, E120, E51, E52, E53, E121, E122], [B2], H⟩ ?_
  refine o_eq2 (congrArg (fun q0 => (⟨[E1, E3, (74, .one .top (.bool q0))], [B2], H⟩ : St)) (show false = ((decide (p0.A_ < 0)) || ((decide (p0.A_ > 15)) || ((decide (p0.B_ < 0)) || ((decide (p0.B_ > 15)) || ((decide (p0.C_ < 0)) || ((decide (p0.C_ > 15)) || (if (!r4) = true then ((p0.A_ != 0) || (if (!r5) = true then ((p0.B_ != 0) || ((!r6) && (p0.C_ != 0))) else ((!r6) && (p0.C_ != 0)))) else (if (!r5) = true then ((p0.B_ != 0) || ((!r6) && (p0.C_ != 0))) else ((!r6) && (p0.C_ != 0)))))))))) by simp [h8, h9, h10, h11, h12, h13, h14, h20, h21, h22])) ?_
  exact ye
  refine o_eq (congrArg (fun q => (⟨[E1, E3, E7, E8, E9, E12, E13, E56, E57, E58, E59, E60, E61, E62, E63, E64, E65, E66, E67, E68, E69, E70, E71, E72, E73, E74, E75, E76, E77, E78, E79, E80, E81, E82, E83, E125, E126, E33, E34, E35, E89, E90, E91, E92, (59, .one .top (.bool q)), (60, .one .top (.bool q))], [B2], H⟩ : St)) h20) ?_
  refine yr 9 ⟨[E1, E3, E7, E8, E9, E12, E13, E56, E57, E58, E59, E60, E61, E62, E63, E64, E65, E66, E67, E68, E69, E70, E71, E72, E73, E74, E75, E76, E77, E78, E79, E80, E81, E82, E83, E125, E126, E33, E34, E35, E89, E90, E91, E92, E123, E124, E42, E43, E44, E106, E107, E108, E109, E110, E111], [B2], H⟩ ?_
  rcases bool_cases (!r6) with h23 | h23
  refine o_eq (congrArg (fun q => (⟨[E1, E3, E7, E8, E9, E12, E13, E56, E57, E58, E59, E60, E61, E62, E63, E64, E65, E66, E67, E68, E69, E70, E71, E72, E73, E74, E75, E76, E77, E78, E79, E80, E81, E82, E83, E125, E126, E33, E34, E35, E89, E90, E91, E92, E123, E124, E42, E43, E44, E106, E107, E108, E109, (68, .one .top (.bool q)), (69, .one .top (.bool q))], [B2], H⟩ : St)) h23) ?_
  refine yr 5 ⟨[E1, E3, E7, E8, E9, E12, E13, E56, E57, E58, E59, E60, E61, E62, E63, E64, E65, E66, E67, E68, E69, E70, E71, E72, E73, E74, E75, E76, E77, E78, E79, E80, E81, E82, E83, E125, E126, E33, E34, E35, E89, E90, E91, E92, E123, E124, E42, E43, E44, E106, E107, E108, E109, E112, E113, E114, E115, E116, E117, E118], [B2], H⟩ ?_
  refine o_eq2 (congrArg (fun q0 => (⟨[E1, E3, (74, .one .top (.bool q0))], [B2], H⟩ : St)) (show (p0.C_ != 0) = ((decide (p0.A_ < 0)) || ((decide (p0.A_ > 15)) || ((decide (p0.B_ < 0)) || ((decide (p0.B_ > 15)) || ((decide (p0.C_ < 0)) || ((decide (p0.C_ > 15)) || (if (!r4) = true then ((p0.A_ != 0) || (if (!r5) = true then ((p0.B_ != 0) || ((!r6) && (p0.C_ != 0))) else ((!r6) && (p0.C_ != 0)))) else (if (!r5) = true then ((p0.B_ != 0) || ((!r6) && (p0.C_ != 0))) else ((!r6) && (p0.C_ != 0)))))))))) by simp [h8, h9, h10, h11, h12, h13, h14, h20, h23])) ?_
  exact ye
  refine o_eq (congrArg (fun q => (⟨[E1, E3, E7, E8, E9, E12, E13, E56, E57, E58, E59, E60, E61, E62, E63, E64, E65, E66, E67, E68, E69, E70, E71, E72, E73, E74, E75, E76, E77, E78, E79, E80, E81, E82, E83, E125, E126, E33, E34, E35, E89, E90, E91, E92, E123, E124, E42, E43, E44, E106, E107, E108, E109, (68, .one .top (.bool q)), (69, .one .top (.bool q))], [B2], H⟩ : St)) h23) ?_
  refine yr 5 ⟨[E1, E3, E7, E8, E9, E12, E13, E56, E57, E58, E59, E60, E61, E62, E63, E64, E65, E66, E67, E68, E69, E70, E71, E72, E73, E74, E75, E76, E77, E78, E79, E80, E81, E82, E83, E125, E126, E33, E34, E35, E89, E90, E91, E92, E123, E124, E42, E43, E44, E106, E107, E108, E109, E119, E120, E51, E52, E53, E121, E122], [B2], H⟩ ?_
  refine o_eq2 (congrArg (fun q0 => (⟨[E1, E3, (74, .one .top (.bool q0))], [B2], H⟩ : St)) (show false = ((decide (p0.A_ < 0)) || ((decide (p0.A_ > 15)) || ((decide (p0.B_ < 0)) || ((decide (p0.B_ > 15)) || ((decide (p0.C_ < 0)) || ((decide (p0.C_ > 15)) || (if (!r4) = true then ((p0.A_ != 0) || (if (!r5) = true then ((p0.B_ != 0) || ((!r6) && (p0.C_ != 0))) else ((!r6) && (p0.C_ != 0)))) else (if (!r5) = true then ((p0.B_ != 0) || ((!r6) && (p0.C_ != 0))) else ((!r6) && (p0.C_ != 0)))))))))) by simp [h8, h9, h10, h11, h12, h13, h14, h20, h23])) ?_
  exact ye
  rcases if_inv hF with ⟨h24, hF⟩ | ⟨h24, hF⟩
  refine yT h24 S142 ?_
  refine ysg ⟨[E127], [], H⟩ ?_
  refine w_ret ?_
  obtain e0 := some1_inv hF
  subst e0
  exact yp (.one .top (.int .i64 20))
  refine yF h24 S140 ?_
  refine w_skip ?_
  refine ysg ⟨[E1, E3, E128, E129], [B2], H⟩ ?_
  refine w_seq ?_
  refine ysg S144 ?_
  refine w_block ?_
  refine w_seq ?_
  refine ysg S145 ?_
  refine w_join (α := (Bool)) (fun x => (⟨[E1, E128, E129, E130, (76, .one .top (.bool x))], [B2], H⟩ : St)) (fun x => ref02_Check_j1 p0 r1 x = some ra) ?_ ?_
  rintro j25 hF
  replace hF : ref02_Check_j1 p0 r1 j25 = some ra := hF
  unfold ref02_Check_j1 at hF
  refine w_join (α := (Int × Int)) (fun x => (⟨[E1, (7, .one .top (.int .i64 x.1)), (8, .one .top (.int .i64 x.2))], [B2], H⟩ : St)) (fun x => ref02_Check_j2 p0 x.1 x.2 = some ra) ?_ ?_
  rintro ⟨j26, j27⟩ hF
  replace hF : ref02_Check_j2 p0 j26 j27 = some ra := hF
  let E132 : EN := (7, .one .top (.int .i64 j26))
  let E133 : EN := (8, .one .top (.int .i64 j27))
  let E136 : EN := (87, .one .top (.int .i64 j26))
  unfold ref02_Check_j2 at hF
  refine w_seq ?_
  refine yso ⟨[(94, .one .top (.bool ((decide (p0.Imm_ < j26)) || (decide (p0.Imm_ > j27)))))], [], H⟩ ?_ ?_
  refine yr 5 ⟨[E1, E132, E133, E134, E135, E136, (88, .one .top (.bool (decide (p0.Imm_ < j26)))), (89, .one .top (.bool (decide (p0.Imm_ < j26))))], [B2], H⟩ ?_
  rcases bool_cases (decide (p0.Imm_ < j26)) with h28 | h28
  refine o_eq (congrArg (fun q => (⟨[E1, E132, E133, E134, E135, E136, (88, .one .top (.bool q)), (89, .one .top (.bool q))], [B2], H⟩ : St)) h28) ?_
  refine yr 5 ⟨[E1, E132, E133, E134, E135, E136, (88, .one .top (.bool true)), (89, .one .top (.bool true)), (90, .tup []), (91, .tup []), (92, .tup []), (93, .tup []), (94, .one .top (.bool true))], [B2], H⟩ ?_
  refine o_eq2 (congrArg (fun q0 => (⟨[(94, .one .top (.bool q0))], [], H⟩ : St)) (show true = ((decide (p0.Imm_ < j26)) || (decide (p0.Imm_ > j27))) by simp [h28])) ?_
  exact ye
  refine o_eq (congrArg (fun q => (⟨[E1, E132, E133, E134, E135, E136, (88, .one .top (.bool q)), (89, .one .top (.bool q))], [B2], H⟩ : St)) h28) ?_
  refine yr 5 ⟨[E1, E132, E133, E134, E135, E136, (88, .one .top (.bool false)), (89, .one .top (.bool false)), (90, .one .top (.loc 1 4)), (91, .one .top (.int .i64 p0.Imm_)), (92, .one .top (.int .i64 j27)), (93, .one .top (.bool (decide (p0.Imm_ > j27)))), (94, .one .top (.bool (decide (p0.Imm_ > j27))))], [B2], H⟩ ?_
  refine o_eq2 (congrArg (fun q0 => (⟨[(94, .one .top (.bool q0))], [], H⟩ : St)) (show (decide (p0.Imm_ > j27)) = ((decide (p0.Imm_ < j26)) || (decide (p0.Imm_ > j27))) by simp [h28])) ?_
  exact ye
  rcases if_inv hF with ⟨h29, hF⟩ | ⟨h29, hF⟩
  refine yT h29 S142 ?_
  refine ysg ⟨[E127], [], H⟩ ?_
  refine w_ret ?_
  obtain e0 := some1_inv hF
  subst e0
  exact yp (.one .top (.int .i64 20))
  refine yF h29 S142 ?_
  refine w_skip ?_
  refine ysg ⟨[(2, .one .top (.int .i64 0))], [], H⟩ ?_
  refine w_ret ?_
  obtain e0 := some1_inv hF
  subst e0
  exact yp (.one .top (.int .i64 0))
  rcases if_inv hF with ⟨h30, hF⟩ | ⟨h30, hF⟩
  refine yT h30 S139 ?_
  refine yg ⟨[E1, (7, .one .top (.int .i64 (-32768))), (8, .one .top (.int .i64 32767))], [B2], H⟩ ?_
  exact ⟨(-32768, 32767), hF, (by kernel_rfl)⟩
  refine yF h30 S144 ?_
  refine w_seq ?_
  refine ysg S146 ?_
  refine w_join (α := (Bool)) (fun x => (⟨[E1, E128, E129, E130, (79, .one .top (.bool x))], [B2], H⟩ : St)) (fun x => ref02_Check_j3 p0 r1 x = some ra) ?_ ?_
  rintro j31 hF
  replace hF : ref02_Check_j3 p0 r1 j31 = some ra := hF
  unfold ref02_Check_j3 at hF
  refine w_join (α := (Int × Int)) (fun x => (⟨[E1, (7, .one .top (.int .i64 x.1)), (8, .one .top (.int .i64 x.2))], [B2], H⟩ : St)) (fun x => ref02_Check_j4 p0 x.1 x.2 = some ra) ?_ ?_
  rintro ⟨j32, j33⟩ hF
  replace hF : ref02_Check_j4 p0 j32 j33 = some ra := hF
  unfold ref02_Check_j4 at hF
  exact ⟨(j32, j33), hF, (by kernel_rfl)⟩
  rcases if_inv hF with ⟨h34, hF⟩ | ⟨h34, hF⟩
  refine yT h34 ⟨[E1, E128], [B2], H⟩ ?_
  refine yg ⟨[E1, E128, (8, .one .top (.int .i64 65535))], [B2], H⟩ ?_
  exact ⟨(0, 65535), hF, (by kernel_rfl)⟩
  refine yF h34 S144 ?_
  refine ysg ⟨[E1, E128, E129, (83, .one .top (.bool (r1 == 7)))], [B2], H⟩ ?_
  refine w_join (α := (Int × Int)) (fun x => (⟨[E1, (7, .one .top (.int .i64 x.1)), (8, .one .top (.int .i64 x.2))], [B2], H⟩ : St)) (fun x => ref02_Check_j5 p0 x.1 x.2 = some ra) ?_ ?_
  rintro ⟨j35, j36⟩ hF
  replace hF : ref02_Check_j5 p0 j35 j36 = some ra := hF
  unfold ref02_Check_j5 at hF
  exact ⟨(j35, j36), hF, (by kernel_rfl)⟩
  rcases if_inv hF with ⟨h37, hF⟩ | ⟨h37, hF⟩
  refine yT h37 S139 ?_
  refine yg ⟨[E1, (7, .one .top (.int .i64 (-8388608))), (8, .one .top (.int .i64 8388607))], [B2], H⟩ ?_
  exact ⟨(-8388608, 8388607), hF, (by kernel_rfl)⟩
  refine yF h37 ⟨[E1, E128, E129], [B2], H⟩ ?_
  refine w_skip ?_
  exact ⟨(0, 0), hF, (by kernel_rfl)⟩
  rcases if_inv hF with ⟨h38, hF⟩ | ⟨h38, hF⟩
  refine yT h38 S146 ?_
  refine w_skip ?_
  exact ⟨(r1 == 2), hF, (by kernel_rfl)⟩
  refine yF h38 S144 ?_
  refine ysg S147 ?_
  refine w_join (α := (Bool)) (fun x => (⟨[E1, E128, E129, E130, (79, .one .top (.bool x))], [B2], H⟩ : St)) (fun x => ref02_Check_j6 p0 r1 x = some ra) ?_ ?_
  rintro j39 hF
  replace hF : ref02_Check_j6 p0 r1 j39 = some ra := hF
  unfold ref02_Check_j6 at hF
  exact ⟨j39, hF, (by kernel_rfl)⟩
  rcases if_inv hF with ⟨h40, hF⟩ | ⟨h40, hF⟩
  refine yT h40 S147 ?_
  refine w_skip ?_
  exact ⟨(r1 == 4), hF, (by kernel_rfl)⟩
  refine yF h40 S144 ?_
  refine yg ⟨[E1, E128, E129, E130, (79, .one .top (.bool (r1 == 8)))], [B2], H⟩ ?_
  exact ⟨(r1 == 8), hF, (by kernel_rfl)⟩
  rcases if_inv hF with ⟨h41, hF⟩ | ⟨h41, hF⟩
  refine yT h41 S145 ?_
  refine w_skip ?_
  exact ⟨(r1 == 1), hF, (by kernel_rfl)⟩
  refine yF h41 S144 ?_
  refine yg ⟨[E1, E128, E129, E130, (76, .one .top (.bool (r1 == 3)))], [B2], H⟩ ?_
  exact ⟨(r1 == 3), hF, (by kernel_rfl)⟩
noncomputable def ref02_Encode  (p0 : T_ref02_Instr) : Option (Int × Int) :=
  bind1 (ref02_Check p0) fun r1 =>
  if (r1 != 0) = true then (some (0, r1))
  else (bind1 (ref02_Shape p0.Op_) fun r4 =>
  if (r4 == 7) = true then (some ((IntKind.wrap .u32 (IntKind.wrap .i64 ((IntKind.wrap .i64 (p0.Op_ * 16777216)) + (Int.tmod (IntKind.wrap .i64 (p0.Imm_ + 16777216)) 16777216)))), 0))
  else (some ((IntKind.wrap .u32 (IntKind.wrap .i64 ((IntKind.wrap .i64 ((IntKind.wrap .i64 ((IntKind.wrap .i64 ((IntKind.wrap .i64 (p0.Op_ * 16777216)) + (IntKind.wrap .i64 (p0.A_ * 1048576)))) + (IntKind.wrap .i64 (p0.B_ * 65536)))) + (Int.tmod (IntKind.wrap .i64 (p0.Imm_ + 65536)) 65536))) + p0.C_))), 0)))
theorem ok_ref02_Encode (H : Heap) {p0 : T_ref02_Instr} {ra : Int} {rb : Int} (hF : ref02_Encode p0 = some (ra, rb)) : evS X 53 [.agg (m0_ref02_Instr p0)] H = some (.tup [.one .top (.int .u32 ra), .one .top (.int .i64 rb)], H) := by
  let E1 : EN := (1, .one .top (.loc 1 0))
  let B2 : EB := (1, (m0_ref02_Instr p0))
  let E4 : EN := (6, .agg (m0_ref02_Instr p0))
  let E6 : EN := (5, .one .top (.int .i64 (IntKind.wrap .i64 (p0.Op_ * 16777216))))
  let E8 : EN := (14, .one .top (.loc 1 0))
  let E9 : EN := (15, .one .top (.int .i64 p0.Op_))
  let E11 : EN := (3, .one .top (.int .i64 0))
  let S12 : St := ⟨[E1, E6], [B2], H⟩
  let S13 : St := ⟨[E1, E6, E8, E9], [B2], H⟩
  refine yf Try.func53 true ⟨[(0, .agg (m0_ref02_Instr p0))], [], H⟩ ?_
  unfold ref02_Encode at hF
  refine ysg ⟨[E1], [B2], H⟩ ?_
  refine w_seq ?_
  refine w_seq ?_
  obtain ⟨r1, c2, hF⟩ := bind1_inv hF
  let E3 : EN := (4, .one .top (.int .i64 r1))
  let E5 : EN := (7, .one .top (.int .i64 r1))
  refine w_regO ⟨[E1, E3], [B2], H⟩ ?_ ?_
  refine yr 1 ⟨[E1, E4], [B2], H⟩ ?_
  refine o_one ⟨[E1, E4, E5], [B2], H⟩ (yc (some 7) true false (⟨[E1, E4], [B2], H⟩ : St) (ok_ref02_Check H c2)) ?_
  refine yr 1 ⟨[E1, E3, E4, E5], [B2], H⟩ ?_
  exact ye
  refine ysg ⟨[E1, E3, (9, .one .top (.bool (r1 != 0)))], [B2], H⟩ ?_
  rcases if_inv hF with ⟨h3, hF⟩ | ⟨h3, hF⟩
  refine yT h3 ⟨[E3], [], H⟩ ?_
  refine ysg ⟨[(2, .one .top (.int .u32 0)), (3, .one .top (.int .i64 r1))], [], H⟩ ?_
  refine w_ret ?_
  obtain ⟨e0, e1⟩ := some2_inv hF
  subst e0
  subst e1
  exact yp (.tup [.one .top (.int .u32 0), .one .top (.int .i64 r1)])
  refine yF h3 ⟨[E1], [B2], H⟩ ?_
  refine w_skip ?_
  refine ysg S12 ?_
  refine w_seq ?_
  refine w_seq ?_
  obtain ⟨r4, c5, hF⟩ := bind1_inv hF
  let E7 : EN := (17, .one .top (.bool (r4 == 7)))
  let E10 : EN := (16, .one .top (.int .i64 r4))
  refine w_regO ⟨[E1, E6, E7], [B2], H⟩ ?_ ?_
  refine yr 2 S13 ?_
  refine o_one ⟨[E1, E6, E8, E9, E10], [B2], H⟩ (yc (some 16) true false S13 (ok_ref02_Shape H c5)) ?_
  refine yr 1 ⟨[E1, E6, E8, E9, E10, E7], [B2], H⟩ ?_
  exact ye
  rcases if_inv hF with ⟨h6, hF⟩ | ⟨h6, hF⟩
  refine yT h6 S12 ?_
  refine ysg ⟨[(2, .one .top (.int .u32 (IntKind.wrap .u32 (IntKind.wrap .i64 ((IntKind.wrap .i64 (p0.Op_ * 16777216)) + (Int.tmod (IntKind.wrap .i64 (p0.Imm_ + 16777216)) 16777216)))))), E11], [], H⟩ ?_
  refine w_ret ?_
  obtain ⟨e0, e1⟩ := some2_inv hF
  subst e0
  subst e1
  exact yp (.tup [.one .top (.int .u32 (IntKind.wrap .u32 (IntKind.wrap .i64 ((IntKind.wrap .i64 (p0.Op_ * 16777216)) + (Int.tmod (IntKind.wrap .i64 (p0.Imm_ + 16777216)) 16777216))))), .one .top (.int .i64 0)])
  refine yF h6 S12 ?_
  refine w_skip ?_
  refine ysg ⟨[(2, .one .top (.int .u32 (IntKind.wrap .u32 (IntKind.wrap .i64 ((IntKind.wrap .i64 ((IntKind.wrap .i64 ((IntKind.wrap .i64 ((IntKind.wrap .i64 (p0.Op_ * 16777216)) + (IntKind.wrap .i64 (p0.A_ * 1048576)))) + (IntKind.wrap .i64 (p0.B_ * 65536)))) + (Int.tmod (IntKind.wrap .i64 (p0.Imm_ + 65536)) 65536))) + p0.C_))))), E11], [], H⟩ ?_
  refine w_ret ?_
  obtain ⟨e0, e1⟩ := some2_inv hF
  subst e0
  subst e1
  exact yp (.tup [.one .top (.int .u32 (IntKind.wrap .u32 (IntKind.wrap .i64 ((IntKind.wrap .i64 ((IntKind.wrap .i64 ((IntKind.wrap .i64 ((IntKind.wrap .i64 (p0.Op_ * 16777216)) + (IntKind.wrap .i64 (p0.A_ * 1048576)))) + (IntKind.wrap .i64 (p0.B_ * 65536)))) + (Int.tmod (IntKind.wrap .i64 (p0.Imm_ + 65536)) 65536))) + p0.C_)))), .one .top (.int .i64 0)])
noncomputable def ref02_Decode_j5 (p0 : Int) (j11 : T_ref02_Instr) : Option (T_ref02_Instr × Int) :=
  bind2 (ref02_Encode j11) fun r12 r13 =>
  if ((r13 != 0) || (r12 != p0)) = true then (some ((T_ref02_Instr.mk 0 0 0 0 0), 21))
  else (some (j11, 0))
noncomputable def ref02_Decode_j7 (p0 : Int) (j21 : T_ref02_Instr) : Option (T_ref02_Instr × Int) :=
  ref02_Decode_j5 p0 j21
noncomputable def ref02_Decode_j8 (p0 : Int) (j23 : T_ref02_Instr) : Option (T_ref02_Instr × Int) :=
  ref02_Decode_j7 p0 j23
noncomputable def ref02_Decode_j6 (p0 : Int) (j9 : T_ref02_Instr) (r1 : Int) (j20 : Bool) : Option (T_ref02_Instr × Int) :=
  if j20 = true then (ref02_Decode_j7 p0 (T_ref02_Instr.mk j9.Op_ j9.A_ j9.B_ j9.C_ (IntKind.wrap .i64 (Int.tmod p0 65536))))
  else (if (r1 == 7) = true then (bind1 (ref01_Sext p0 24) fun r25 =>
  ref02_Decode_j8 p0 (T_ref02_Instr.mk j9.Op_ j9.A_ j9.B_ j9.C_ (IntKind.wrap .i64 r25)))
  else (ref02_Decode_j8 p0 j9))
noncomputable def ref02_Decode_j9 (p0 : Int) (j9 : T_ref02_Instr) (r1 : Int) (j28 : Bool) : Option (T_ref02_Instr × Int) :=
  ref02_Decode_j6 p0 j9 r1 j28
noncomputable def ref02_Decode_j4 (p0 : Int) (j9 : T_ref02_Instr) (r1 : Int) (j10 : Bool) : Option (T_ref02_Instr × Int) :=
  if j10 = true then (bind1 (ref01_Sext p0 16) fun r18 =>
  ref02_Decode_j5 p0 (T_ref02_Instr.mk j9.Op_ j9.A_ j9.B_ j9.C_ (IntKind.wrap .i64 r18)))
  else (if (r1 == 2) = true then (ref02_Decode_j6 p0 j9 r1 (r1 == 2))
  else (if (r1 == 4) = true then (ref02_Decode_j9 p0 j9 r1 (r1 == 4))
  else (ref02_Decode_j9 p0 j9 r1 (r1 == 8))))
noncomputable def ref02_Decode_j3 (r1 : Int) (p0 : Int) (j9 : T_ref02_Instr) : Option (T_ref02_Instr × Int) :=
  if (r1 == 1) = true then (ref02_Decode_j4 p0 j9 r1 (r1 == 1))
  else (ref02_Decode_j4 p0 j9 r1 (r1 == 3))
noncomputable def ref02_Decode_j2 (r5 : Bool) (r1 : Int) (p0 : Int) (j8 : T_ref02_Instr) : Option (T_ref02_Instr × Int) :=
  if r5 = true then (ref02_Decode_j3 r1 p0 (T_ref02_Instr.mk j8.Op_ j8.A_ j8.B_ (IntKind.wrap .i64 (Int.tmod p0 16)) j8.Imm_))
  else (ref02_Decode_j3 r1 p0 j8)
noncomputable def ref02_Decode_j1 (r4 : Bool) (r5 : Bool) (r1 : Int) (p0 : Int) (j7 : T_ref02_Instr) : Option (T_ref02_Instr × Int) :=
  if r4 = true then (ref02_Decode_j2 r5 r1 p0 (T_ref02_Instr.mk j7.Op_ j7.A_ (IntKind.wrap .i64 (Int.tmod (IntKind.wrap .u32 (Int.tdiv p0 65536)) 16)) j7.C_ j7.Imm_))
  else (ref02_Decode_j2 r5 r1 p0 j7)
noncomputable def ref02_Decode  (p0 : Int) : Option (T_ref02_Instr × Int) :=
  bind1 (ref02_Shape (IntKind.wrap .i64 (IntKind.wrap .u32 (Int.tdiv p0 16777216)))) fun r1 =>
  bind3 (ref02_has r1) fun r3 r4 r5 =>
  if r3 = true then (ref02_Decode_j1 r4 r5 r1 p0 (T_ref02_Instr.mk (IntKind.wrap .i64 (IntKind.wrap .u32 (Int.tdiv p0 16777216))) (IntKind.wrap .i64 (Int.tmod (IntKind.wrap .u32 (Int.tdiv p0 1048576)) 16)) 0 0 0))
  else (ref02_Decode_j1 r4 r5 r1 p0 (T_ref02_Instr.mk (IntKind.wrap .i64 (IntKind.wrap .u32 (Int.tdiv p0 16777216))) 0 0 0 0))
theorem ok_ref02_Decode (H : Heap) {p0 : Int} {ra : T_ref02_Instr} {rb : Int} (hF : ref02_Decode p0 = some (ra, rb)) : evS X 97 [.one .top (.int .u32 p0)] H = some (.tup [.agg [(.top, .int .i64 ra.Op_), (.top, .int .i64 ra.A_), (.top, .int .i64 ra.B_), (.top, .int .i64 ra.C_), (.top, .int .i64 ra.Imm_)], .one .top (.int .i64 rb)], H) := by
  let E1 : EN := (0, .one .top (.int .u32 p0))
  let E2 : EN := (2, .one .top (.loc 2 0))
  let B3 : EB := (2, (List.replicate 5 (.top, .int .i64 0)))
  let E4 : EN := (4, .one .top (.loc 4 0))
  let B5 : EB := (4, ([(.top, .int .i64 (IntKind.wrap .i64 (IntKind.wrap .u32 (Int.tdiv p0 16777216))))] ++ List.replicate 4 (.top, .int .i64 0)))
  let E7 : EN := (15, .one .top (.loc 4 0))
  let E8 : EN := (16, .one .top (.int .i64 (IntKind.wrap .i64 (IntKind.wrap .u32 (Int.tdiv p0 16777216)))))
  let E26 : EN := (45, .one .top (.int .u32 p0))
  let E30 : EN := (59, .one .top (.int .u32 p0))
  let S33 : St := ⟨[E1, E2, E4, E7, E8], [B3, B5], H⟩
  refine yf Try.func97 true ⟨[E1], [], H⟩ ?_
  unfold ref02_Decode at hF
  refine ysg ⟨[E1, E2], [B3], H⟩ ?_
  refine ysg ⟨[E1, E2, E4], [B3, B5], H⟩ ?_
  refine w_seq ?_
  obtain ⟨r1, c2, hF⟩ := bind1_inv hF
  let E6 : EN := (5, .one .top (.int .i64 r1))
  let E9 : EN := (17, .one .top (.int .i64 r1))
  let E12 : EN := (19, .one .top (.int .i64 r1))
  let E16 : EN := (41, .one .top (.int .i64 r1))
  let E18 : EN := (42, .one .top (.bool (r1 == 1)))
  let E28 : EN := (49, .one .top (.bool (r1 == 2)))
  let E32 : EN := (49, .one .top (.bool (r1 == 4)))
  let S34 : St := ⟨[E1, E2, E4, E6, E12], [B3, B5], H⟩
  refine w_regO ⟨[E1, E2, E4, E6], [B3, B5], H⟩ ?_ ?_
  refine yr 2 S33 ?_
  refine o_one ⟨[E1, E2, E4, E7, E8, E9], [B3, B5], H⟩ (yc (some 17) true false S33 (ok_ref02_Shape H c2)) ?_
  refine yr 1 ⟨[E1, E2, E4, E6, E7, E8, E9], [B3, B5], H⟩ ?_
  exact ye
  refine w_seq ?_
  obtain ⟨r3, r4, r5, c6, hF⟩ := bind3_inv hF
  let E10 : EN := (7, .one .top (.bool r4))
  let E11 : EN := (8, .one .top (.bool r5))
  let E13 : EN := (20, .tup [.one .top (.bool r3), .one .top (.bool r4), .one .top (.bool r5)])
  let S45 : St := ⟨[E1, E2, E4, E6, E10, E11], [B3, B5], H⟩
  refine w_regO ⟨[E1, E2, E4, E6, (6, .one .top (.bool r3)), E10, E11], [B3, B5], H⟩ ?_ ?_
  refine yr 1 S34 ?_
  refine o_one ⟨[E1, E2, E4, E6, E12, E13], [B3, B5], H⟩ (yc (some 20) true false S34 (ok_ref02_has H c6)) ?_
  refine yr 7 ⟨[E1, E2, E4, E6, (6, .one .top (.bool r3)), E10, E11, (18, .tup [.one .top (.bool r3), .one .top (.bool r4), .one .top (.bool r5)]), E12, E13, (21, .one .top (.bool r3)), (22, .one .top (.bool r4)), (23, .one .top (.bool r5))], [B3, B5], H⟩ ?_
  exact ye
  refine w_seq ?_
  refine ysg ⟨[E1, E2, E4, E6, E10, E11, (24, .one .top (.bool r3))], [B3, B5], H⟩ ?_
  refine w_join (α := (T_ref02_Instr)) (fun x => (⟨[E1, E2, E4, E6, E10, E11], [B3, (4, (m0_ref02_Instr x))], H⟩ : St)) (fun x => ref02_Decode_j1 r4 r5 r1 p0 x = some (ra, rb)) ?_ ?_
  rintro j7 hF
  replace hF : ref02_Decode_j1 r4 r5 r1 p0 j7 = some (ra, rb) := hF
  let B14 : EB := (4, (m0_ref02_Instr j7))
  let S44 : St := ⟨[E1, E2, E4, E6, E11], [B3, B14], H⟩
  unfold ref02_Decode_j1 at hF
  refine w_seq ?_
  refine ysg ⟨[E1, E2, E4, E6, E11, (30, .one .top (.bool r4))], [B3, B14], H⟩ ?_
  refine w_join (α := (T_ref02_Instr)) (fun x => (⟨[E1, E2, E4, E6, E11], [B3, (4, (m0_ref02_Instr x))], H⟩ : St)) (fun x => ref02_Decode_j2 r5 r1 p0 x = some (ra, rb)) ?_ ?_
  rintro j8 hF
  replace hF : ref02_Decode_j2 r5 r1 p0 j8 = some (ra, rb) := hF
  let B15 : EB := (4, (m0_ref02_Instr j8))
  let S43 : St := ⟨[E1, E2, E4, E6], [B3, B15], H⟩
  unfold ref02_Decode_j2 at hF
  refine w_seq ?_
  refine ysg ⟨[E1, E2, E4, E6, (36, .one .top (.bool r5))], [B3, B15], H⟩ ?_
  refine w_join (α := (T_ref02_Instr)) (fun x => (⟨[E1, E2, E4, E6], [B3, (4, (m0_ref02_Instr x))], H⟩ : St)) (fun x => ref02_Decode_j3 r1 p0 x = some (ra, rb)) ?_ ?_
  rintro j9 hF
  replace hF : ref02_Decode_j3 r1 p0 j9 = some (ra, rb) := hF
  let B17 : EB := (4, (m0_ref02_Instr j9))
  let S35 : St := ⟨[E1, E2, E4, E16], [B3, B17], H⟩
  let S36 : St := ⟨[E1, E2, E4, E16, E18], [B3, B17], H⟩
  let S38 : St := ⟨[E1, E2, E4], [B3, B17], H⟩
  let S39 : St := ⟨[E1, E2, E4, E26], [B3, B17], H⟩
  let S40 : St := ⟨[E1, E2, E4, E16, E28], [B3, B17], H⟩
  let S41 : St := ⟨[E1, E2, E4, E30], [B3, B17], H⟩
  let S42 : St := ⟨[E1, E2, E4, E16, E32], [B3, B17], H⟩
  unfold ref02_Decode_j3 at hF
  refine w_seq ?_
  refine ysg S35 ?_
  refine w_block ?_
  refine w_seq ?_
  refine ysg S36 ?_
  refine w_join (α := (Bool)) (fun x => (⟨[E1, E2, E4, E16, (42, .one .top (.bool x))], [B3, B17], H⟩ : St)) (fun x => ref02_Decode_j4 p0 j9 r1 x = some (ra, rb)) ?_ ?_
  rintro j10 hF
  replace hF : ref02_Decode_j4 p0 j9 r1 j10 = some (ra, rb) := hF
  unfold ref02_Decode_j4 at hF
  refine w_join (α := (T_ref02_Instr)) (fun x => (⟨[E1, E2, E4], [B3, (4, (m0_ref02_Instr x))], H⟩ : St)) (fun x => ref02_Decode_j5 p0 x = some (ra, rb)) ?_ ?_
  rintro j11 hF
  replace hF : ref02_Decode_j5 p0 j11 = some (ra, rb) := hF
  let B21 : EB := (4, (m0_ref02_Instr j11))
  let E22 : EN := (64, .agg (m0_ref02_Instr j11))
  let S37 : St := ⟨[E1, E2, E4, E22], [B3, B21], H⟩
  unfold ref02_Decode_j5 at hF
  refine w_seq ?_
  obtain ⟨r12, r13, c14, hF⟩ := bind2_inv hF
  let E19 : EN := (9, .one .top (.int .u32 r12))
  let E20 : EN := (10, .one .top (.int .i64 r13))
  let E23 : EN := (65, .tup [.one .top (.int .u32 r12), .one .top (.int .i64 r13)])
  let E24 : EN := (68, .one .top (.int .i64 r13))
  refine w_regO ⟨[E1, E2, E4, E19, E20], [B3, B21], H⟩ ?_ ?_
  refine yr 1 S37 ?_
  refine o_one ⟨[E1, E2, E4, E22, E23], [B3, B21], H⟩ (yc (some 65) true false S37 (ok_ref02_Encode H c14)) ?_
  refine yr 5 ⟨[E1, E2, E4, E19, E20, (63, .tup [.one .top (.int .u32 r12), .one .top (.int .i64 r13)]), E22, E23, (66, .one .top (.int .u32 r12)), (67, .one .top (.int .i64 r13))], [B3, B21], H⟩ ?_
  exact ye
  refine w_seq ?_
  refine yso ⟨[E2, E4, (74, .one .top (.bool ((r13 != 0) || (r12 != p0))))], [B3, B21], H⟩ ?_ ?_
  refine yr 3 ⟨[E1, E2, E4, E19, E20, E24, (69, .one .top (.bool (r13 != 0))), (70, .one .top (.bool (r13 != 0)))], [B3, B21], H⟩ ?_
  rcases bool_cases (r13 != 0) with h15 | h15
  refine o_eq (congrArg (fun q => (⟨[E1, E2, E4, E19, E20, E24, (69, .one .top (.bool q)), (70, .one .top (.bool q))], [B3, B21], H⟩ : St)) h15) ?_
  refine yr 4 ⟨[E1, E2, E4, E19, E20, E24, (69, .one .top (.bool true)), (70, .one .top (.bool true)), (71, .tup []), (72, .tup []), (73, .tup []), (74, .one .top (.bool true))], [B3, B21], H⟩ ?_
  refine o_eq2 (congrArg (fun q0 => (⟨[E2, E4, (74, .one .top (.bool q0))], [B3, B21], H⟩ : St)) (show true = ((r13 != 0) || (r12 != p0)) by simp [h15])) ?_
  exact ye
  refine o_eq (congrArg (fun q => (⟨[E1, E2, E4, E19, E20, E24, (69, .one .top (.bool q)), (70, .one .top (.bool q))], [B3, B21], H⟩ : St)) h15) ?_
  refine yr 4 ⟨[E1, E2, E4, E19, E20, E24, (69, .one .top (.bool false)), (70, .one .top (.bool false)), (71, .one .top (.int .u32 r12)), (72, .one .top (.int .u32 p0)), (73, .one .top (.bool (r12 != p0))), (74, .one .top (.bool (r12 != p0)))], [B3, B21], H⟩ ?_
  refine o_eq2 (congrArg (fun q0 => (⟨[E2, E4, (74, .one .top (.bool q0))], [B3, B21], H⟩ : St)) (show (r12 != p0) = ((r13 != 0) || (r12 != p0)) by simp [h15])) ?_
  exact ye
  rcases if_inv hF with ⟨h16, hF⟩ | ⟨h16, hF⟩
  refine yT h16 ⟨[E2], [B3], H⟩ ?_
  refine ysg ⟨[E2, (3, .one .top (.int .i64 21))], [B3], H⟩ ?_
  refine w_ret ?_
  obtain ⟨e0, e1⟩ := some2_inv hF
  subst e0
  subst e1
  exact yp (.tup [.agg (List.replicate 5 (.top, .int .i64 0)), .one .top (.int .i64 21)])
  refine yF h16 ⟨[E2, E4], [B3, B21], H⟩ ?_
  refine w_skip ?_
  refine ysg ⟨[E2, (3, .one .top (.int .i64 0))], [(2, (m0_ref02_Instr j11))], H⟩ ?_
  refine w_ret ?_
  obtain ⟨e0, e1⟩ := some2_inv hF
  subst e0
  subst e1
  exact yp (.tup [.agg (m0_ref02_Instr j11), .one .top (.int .i64 0)])
  rcases if_inv hF with ⟨h17, hF⟩ | ⟨h17, hF⟩
  refine yT h17 S38 ?_
  obtain ⟨r18, c19, hF⟩ := bind1_inv hF
  let B25 : EB := (4, [(.top, .int .i64 j9.Op_), (.top, .int .i64 j9.A_), (.top, .int .i64 j9.B_), (.top, .int .i64 j9.C_), (.top, .int .i64 (IntKind.wrap .i64 r18))])
  let E27 : EN := (46, .one .top (.int .i32 r18))
  refine w_regO ⟨[E1, E2, E4], [B3, B25], H⟩ ?_ ?_
  refine yr 1 S39 ?_
  refine o_one ⟨[E1, E2, E4, E26, E27], [B3, B17], H⟩ (yc (some 46) true false S39 (ok_ref01_Sext H c19)) ?_
  refine yr 3 ⟨[E1, E2, E4, E26, E27, (47, .one .top (.int .i64 (IntKind.wrap .i64 r18))), (48, .one .top (.loc 4 4))], [B3, B25], H⟩ ?_
  exact ye
  exact ⟨(T_ref02_Instr.mk j9.Op_ j9.A_ j9.B_ j9.C_ (IntKind.wrap .i64 r18)), hF, (by kernel_rfl)⟩
  refine yF h17 S35 ?_
  refine w_seq ?_
  refine ysg S40 ?_
  refine w_join (α := (Bool)) (fun x => (⟨[E1, E2, E4, E16, (49, .one .top (.bool x))], [B3, B17], H⟩ : St)) (fun x => ref02_Decode_j6 p0 j9 r1 x = some (ra, rb)) ?_ ?_
  rintro j20 hF
  replace hF : ref02_Decode_j6 p0 j9 r1 j20 = some (ra, rb) := hF
  unfold ref02_Decode_j6 at hF
  refine w_join (α := (T_ref02_Instr)) (fun x => (⟨[E1, E2, E4], [B3, (4, (m0_ref02_Instr x))], H⟩ : St)) (fun x => ref02_Decode_j7 p0 x = some (ra, rb)) ?_ ?_
  rintro j21 hF
  replace hF : ref02_Decode_j7 p0 j21 = some (ra, rb) := hF
  unfold ref02_Decode_j7 at hF
  exact ⟨j21, hF, (by kernel_rfl)⟩
  rcases if_inv hF with ⟨h22, hF⟩ | ⟨h22, hF⟩
  refine yT h22 S38 ?_
  refine yg ⟨[E1, E2, E4], [B3, (4, [(.top, .int .i64 j9.Op_), (.top, .int .i64 j9.A_), (.top, .int .i64 j9.B_), (.top, .int .i64 j9.C_), (.top, .int .i64 (IntKind.wrap .i64 (Int.tmod p0 65536)))])], H⟩ ?_
  exact ⟨(T_ref02_Instr.mk j9.Op_ j9.A_ j9.B_ j9.C_ (IntKind.wrap .i64 (Int.tmod p0 65536))), hF, (by kernel_rfl)⟩
  refine yF h22 S35 ?_
  refine ysg ⟨[E1, E2, E4, (57, .one .top (.bool (r1 == 7)))], [B3, B17], H⟩ ?_
  refine w_join (α := (T_ref02_Instr)) (fun x => (⟨[E1, E2, E4], [B3, (4, (m0_ref02_Instr x))], H⟩ : St)) (fun x => ref02_Decode_j8 p0 x = some (ra, rb)) ?_ ?_
  rintro j23 hF
  replace hF : ref02_Decode_j8 p0 j23 = some (ra, rb) := hF
  unfold ref02_Decode_j8 at hF
  exact ⟨j23, hF, (by kernel_rfl)⟩
  rcases if_inv hF with ⟨h24, hF⟩ | ⟨h24, hF⟩
  refine yT h24 S38 ?_
  obtain ⟨r25, c26, hF⟩ := bind1_inv hF
  let B29 : EB := (4, [(.top, .int .i64 j9.Op_), (.top, .int .i64 j9.A_), (.top, .int .i64 j9.B_), (.top, .int .i64 j9.C_), (.top, .int .i64 (IntKind.wrap .i64 r25))])
  let E31 : EN := (60, .one .top (.int .i32 r25))
  refine w_regO ⟨[E1, E2, E4], [B3, B29], H⟩ ?_ ?_
  refine yr 1 S41 ?_
  refine o_one ⟨[E1, E2, E4, E30, E31], [B3, B17], H⟩ (yc (some 60) true false S41 (ok_ref01_Sext H c26)) ?_
  refine yr 3 ⟨[E1, E2, E4, E30, E31, (61, .one .top (.int .i64 (IntKind.wrap .i64 r25))), (62, .one .top (.loc 4 4))], [B3, B29], H⟩ ?_
  exact ye
  exact ⟨(T_ref02_Instr.mk j9.Op_ j9.A_ j9.B_ j9.C_ (IntKind.wrap .i64 r25)), hF, (by kernel_rfl)⟩
  refine yF h24 S38 ?_
  refine w_skip ?_
  exact ⟨j9, hF, (by kernel_rfl)⟩
  rcases if_inv hF with ⟨h27, hF⟩ | ⟨h27, hF⟩
  refine yT h27 S40 ?_
  refine w_skip ?_
  exact ⟨(r1 == 2), hF, (by kernel_rfl)⟩
  refine yF h27 S35 ?_
  refine ysg S42 ?_
  refine w_join (α := (Bool)) (fun x => (⟨[E1, E2, E4, E16, (49, .one .top (.bool x))], [B3, B17], H⟩ : St)) (fun x => ref02_Decode_j9 p0 j9 r1 x = some (ra, rb)) ?_ ?_
  rintro j28 hF
  replace hF : ref02_Decode_j9 p0 j9 r1 j28 = some (ra, rb) := hF
  unfold ref02_Decode_j9 at hF
  exact ⟨j28, hF, (by kernel_rfl)⟩
  rcases if_inv hF with ⟨h29, hF⟩ | ⟨h29, hF⟩
  refine yT h29 S42 ?_
  refine w_skip ?_
  exact ⟨(r1 == 4), hF, (by kernel_rfl)⟩
  refine yF h29 S35 ?_
  refine yg ⟨[E1, E2, E4, E16, (49, .one .top (.bool (r1 == 8)))], [B3, B17], H⟩ ?_
  exact ⟨(r1 == 8), hF, (by kernel_rfl)⟩
  rcases if_inv hF with ⟨h30, hF⟩ | ⟨h30, hF⟩
  refine yT h30 S36 ?_
  refine w_skip ?_
  exact ⟨(r1 == 1), hF, (by kernel_rfl)⟩
  refine yF h30 S35 ?_
  refine yg ⟨[E1, E2, E4, E16, (42, .one .top (.bool (r1 == 3)))], [B3, B17], H⟩ ?_
  exact ⟨(r1 == 3), hF, (by kernel_rfl)⟩
  rcases if_inv hF with ⟨h31, hF⟩ | ⟨h31, hF⟩
  refine yT h31 S43 ?_
  refine yg ⟨[E1, E2, E4, E6], [B3, (4, [(.top, .int .i64 j8.Op_), (.top, .int .i64 j8.A_), (.top, .int .i64 j8.B_), (.top, .int .i64 (IntKind.wrap .i64 (Int.tmod p0 16))), (.top, .int .i64 j8.Imm_)])], H⟩ ?_
  exact ⟨(T_ref02_Instr.mk j8.Op_ j8.A_ j8.B_ (IntKind.wrap .i64 (Int.tmod p0 16)) j8.Imm_), hF, (by kernel_rfl)⟩
  refine yF h31 S43 ?_
  refine w_skip ?_
  exact ⟨j8, hF, (by kernel_rfl)⟩
  rcases if_inv hF with ⟨h32, hF⟩ | ⟨h32, hF⟩
  refine yT h32 S44 ?_
  refine yg ⟨[E1, E2, E4, E6, E11], [B3, (4, [(.top, .int .i64 j7.Op_), (.top, .int .i64 j7.A_), (.top, .int .i64 (IntKind.wrap .i64 (Int.tmod (IntKind.wrap .u32 (Int.tdiv p0 65536)) 16))), (.top, .int .i64 j7.C_), (.top, .int .i64 j7.Imm_)])], H⟩ ?_
  exact ⟨(T_ref02_Instr.mk j7.Op_ j7.A_ (IntKind.wrap .i64 (Int.tmod (IntKind.wrap .u32 (Int.tdiv p0 65536)) 16)) j7.C_ j7.Imm_), hF, (by kernel_rfl)⟩
  refine yF h32 S44 ?_
  refine w_skip ?_
  exact ⟨j7, hF, (by kernel_rfl)⟩
  rcases if_inv hF with ⟨h33, hF⟩ | ⟨h33, hF⟩
  refine yT h33 S45 ?_
  refine yg ⟨[E1, E2, E4, E6, E10, E11], [B3, (4, [(.top, .int .i64 (IntKind.wrap .i64 (IntKind.wrap .u32 (Int.tdiv p0 16777216)))), (.top, .int .i64 (IntKind.wrap .i64 (Int.tmod (IntKind.wrap .u32 (Int.tdiv p0 1048576)) 16))), (.top, .int .i64 0), (.top, .int .i64 0), (.top, .int .i64 0)])], H⟩ ?_
  exact ⟨(T_ref02_Instr.mk (IntKind.wrap .i64 (IntKind.wrap .u32 (Int.tdiv p0 16777216))) (IntKind.wrap .i64 (Int.tmod (IntKind.wrap .u32 (Int.tdiv p0 1048576)) 16)) 0 0 0), hF, (by kernel_rfl)⟩
  refine yF h33 S45 ?_
  refine w_skip ?_
  exact ⟨(T_ref02_Instr.mk (IntKind.wrap .i64 (IntKind.wrap .u32 (Int.tdiv p0 16777216))) 0 0 0 0), hF, (by kernel_rfl)⟩
noncomputable def ref01_Times  (p0 : Int) (p1 : Int) : Option (Int) :=
  bind1 (ref01_Round (IntKind.wrap .i64 ((IntKind.wrap .i64 p0) * (IntKind.wrap .i64 p1)))) fun r1 =>
  some r1
theorem ok_ref01_Times (H : Heap) {p0 : Int} {p1 : Int} {ra : Int} (hF : ref01_Times p0 p1 = some ra) : evS X 72 [.one .top (.int .i32 p0), .one .top (.int .i32 p1)] H = some (.one .top (.int .i32 ra), H) := by
  let E1 : EN := (0, .one .top (.int .i32 p0))
  let E2 : EN := (1, .one .top (.int .i32 p1))
  let E4 : EN := (5, .one .top (.int .i32 p0))
  let E5 : EN := (6, .one .top (.int .i64 (IntKind.wrap .i64 p0)))
  let E6 : EN := (7, .one .top (.int .i32 p1))
  let E7 : EN := (8, .one .top (.int .i64 (IntKind.wrap .i64 p1)))
  let E8 : EN := (9, .one .top (.int .i64 (IntKind.wrap .i64 ((IntKind.wrap .i64 p0) * (IntKind.wrap .i64 p1)))))
  let S10 : St := ⟨[E1, E2, E4, E5, E6, E7, E8], [], H⟩
  refine yf Try.func72 true ⟨[E1, E2], [], H⟩ ?_
  unfold ref01_Times at hF
  refine ysg ⟨[E1, E2], [], H⟩ ?_
  refine w_seq ?_
  obtain ⟨r1, c2, hF⟩ := bind1_inv hF
  let E3 : EN := (4, .one .top (.int .i32 r1))
  let E9 : EN := (10, .one .top (.int .i32 r1))
  refine w_regO ⟨[E3], [], H⟩ ?_ ?_
  refine yr 5 S10 ?_
  refine o_one ⟨[E1, E2, E4, E5, E6, E7, E8, E9], [], H⟩ (yc (some 10) true false S10 (ok_ref01_Round H c2)) ?_
  refine yr 1 ⟨[E1, E2, E3, E4, E5, E6, E7, E8, E9], [], H⟩ ?_
  exact ye
  refine w_ret ?_
  obtain e0 := some1_inv hF
  subst e0
  exact yp (.one .top (.int .i32 r1))
end Go.Proofs.Abs
