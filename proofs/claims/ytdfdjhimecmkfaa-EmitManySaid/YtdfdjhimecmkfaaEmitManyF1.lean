/- The law EmitMany: whatever the input, it answers true. No conditions. (Part EmitManyF1 of its proof.) -/
import Derived.Test.YtdfdjhimecmkfaaEmitManyF0
set_option linter.unusedVariables false
set_option linter.unusedSimpArgs false
set_option linter.unusedSectionVars false
/- Printed by gen (walk.py). -/
namespace Go.Proofs.Abs
open Go Go.Proofs
set_option linter.unusedVariables false
set_option maxRecDepth 100000
set_option maxHeartbeats 0
noncomputable def emit_Code_Finish_j2 (H16 : Heap) (i8 : Nat) (a15 : Int) (j23 : T_api_Segment) : Option ((Int × Heap) ⊕ ((Heap))) :=
  bind1 (ranges_Builder_Mark H16 (Ptr.at i8 0) j23.Start_ j23.Pad_) fun H25 =>
  some (Sum.inl ((IntKind.wrap .i64 (a15 + 1)), H25))
noncomputable def emit_Code_Finish_L1 (r13 : (List T_api_Segment)) (i1 : Nat) (o2 : Nat) (i8 : Nat) (a15 : Int) (H16 : Heap) : Option ((Int × Heap) ⊕ ((Heap))) :=
  if (decide (a15 < (r13.length : Int))) = true then (bind1 (gi r13 a15) fun x18 =>
  bind1 (get_emit_Code H16 i1 o2) fun x20 =>
  if (decide (x18.Start_ ≥ (x20.words_.length : Int))) = true then (some (Sum.inr H16))
  else (if (x18.Pad_ != (-1)) = true then (bind1 (gi x20.pads_ x18.Pad_) fun x27 =>
  emit_Code_Finish_j2 H16 i8 a15 (T_api_Segment.mk x18.Start_ x27))
  else (emit_Code_Finish_j2 H16 i8 a15 x18)))
  else (some (Sum.inr H16))
noncomputable def emit_Code_Finish (H : Heap) (p0 : Ptr) : Option (Heap × T_emit_Result × Int) :=
  (p0).bnd fun i1 o2 =>
  bind1 (get_emit_Code H i1 o2) fun x4 =>
  if (x4.err_ != 0) = true then (some (H, (T_emit_Result.mk ([] : List Int) ([] : List T_api_Fixup) ([] : List T_api_Segment)), x4.err_))
  else (bnd H.length fun i8 =>
  bnd (new_ranges_Builder H (T_ranges_Builder.mk ([] : List T_api_Segment))) fun H7 =>
  bind1 (get_emit_Code H7 i1 o2) fun x11 =>
  bind1 (ranges_Builder_List H7 (Ptr.at i1 (o2 + 2))) fun r13 =>
  bind1 (loopO (fun (x : (Int × Heap)) => emit_Code_Finish_L1 r13 i1 o2 i8 x.1 x.2) (0, H7)) (fun H31 =>
  bind1 (get_emit_Code H31 i1 o2) fun x32 =>
  bind1 (app 4 ([] : List Int) x32.words_) fun v34 =>
  bind1 (app 32 ([] : List T_api_Fixup) x32.fixups_) fun v36 =>
  bind1 (ranges_Builder_List H31 (Ptr.at i8 0)) fun r38 =>
  some (H31, (T_emit_Result.mk v34 v36 r38), 0)))
theorem ok_emit_Code_Finish (H : Heap) {p0 : Ptr} {ra : T_emit_Result} {rb : Int} {Hr : Heap} (hF : emit_Code_Finish H p0 = some (Hr, ra, rb)) : evS X 46 [.one .top (Ptr.av p0)] H = some (.tup [.agg (m0_emit_Result ra), .one .top (.int .i64 rb)], Hr) := by
  let E1 : Ptr → Nat × TV := fun z0 => (0, .one .top (Ptr.av z0))
  let E2 : Nat × TV := (2, .one .top (.loc 2 0))
  let B3 : Nat × List MC := (2, [((.own 1), .sl 1 (List.map (eI .u32) ([] : List Int))), ((.own 1), .sl 4 (List.map e_api_Fixup ([] : List T_api_Fixup))), ((.own 1), .sl 2 (List.map e_api_Segment ([] : List T_api_Segment)))])
  let E11 : Nat × TV := (12, .agg [((.own 1), .sl 1 (List.map (eI .u32) ([] : List Int))), ((.own 1), .sl 4 (List.map e_api_Fixup ([] : List T_api_Fixup))), ((.own 1), .sl 2 (List.map e_api_Segment ([] : List T_api_Segment)))])
  let E16 : Nat × TV := (12, .agg [(.top, .junk), (.top, .junk), (.top, .junk)])
  let E18 : Nat × TV := (17, .agg [(.top, .junk)])
  let E25 : Nat × TV := (6, .one .top (.loc 6 0))
  let E29 : Nat × TV := (28, .one .top (.loc 6 0))
  let E37 : Nat × TV := (49, .one .top (.loc 6 0))
  let E39 : Nat × TV := (51, .one .top (.loc 6 1))
  let E47 : Nat × TV := (43, .one .top (.loc 6 1))
  let E51 : Nat × TV := (3, .one .top (.int .i64 0))
  let E62 : Nat × TV := (55, .one .top .junk)
  let E63 : Nat × TV := (60, .one .top .junk)
  let E64 : Nat × TV := (61, .one .top .junk)
  let E65 : Nat × TV := (66, .one .top .junk)
  let E66 : Nat × TV := (68, .one .top .junk)
  let E67 : Nat × TV := (69, .agg [(.top, .junk), (.top, .junk), (.top, .junk)])
  let E68 : Nat × TV := (55, .one (.own 1) (.sl 1 (List.map (eI .u32) ([] : List Int))))
  let E70 : Nat × TV := (61, .one (.own 1) (.sl 4 (List.map e_api_Fixup ([] : List T_api_Fixup))))
  refine w_fun Try.func46 rfl (by kernel_rfl) false (by kernel_rfl) (s0 := (⟨[(E1 p0)], [], H⟩ : St)) (by kernel_rfl) ?_
  unfold emit_Code_Finish at hF
  refine w_seq ?_
  refine w_reg ⟨[(E1 p0), E2], [B3], H⟩ (by generalize p0 = qp0; cases qp0 <;> kernel_rfl) ?_
  refine w_seq ?_
  refine w_seq ?_
  obtain ⟨i1, o2, h3, hF⟩ := pbnd_inv hF
  let E4 : Nat × TV := (0, .one .top (.obj i1 o2))
  let E6 : Nat × TV := (7, .one .top (.obj i1 o2))
  let E7 : Nat × TV := (8, .one .top (.obj i1 o2))
  let E8 : Nat × TV := (9, .one .top (.obj i1 (o2 + 7)))
  let E12 : Nat × TV := (13, .one .top (.obj i1 o2))
  let E13 : Nat × TV := (14, .one .top (.obj i1 o2))
  let E14 : Nat × TV := (15, .one .top (.obj i1 (o2 + 7)))
  let E21 : Nat × TV := (19, .one .top (.obj i1 o2))
  let E22 : Nat × TV := (20, .one .top (.obj i1 o2))
  let E23 : Nat × TV := (21, .one .top (.obj i1 (o2 + 2)))
  let E31 : Nat × TV := (30, .one .top (.obj i1 o2))
  let E32 : Nat × TV := (31, .one .top (.obj i1 o2))
  let E33 : Nat × TV := (32, .one .top (.obj i1 o2))
  let E43 : Nat × TV := (39, .one .top (.obj i1 o2))
  let E44 : Nat × TV := (40, .one .top (.obj i1 o2))
  let E45 : Nat × TV := (41, .one .top (.obj i1 (o2 + 3)))
  let E53 : Nat × TV := (56, .one .top (.obj i1 o2))
  let E54 : Nat × TV := (57, .one .top (.obj i1 o2))
  let E55 : Nat × TV := (58, .one .top (.obj i1 o2))
  let E57 : Nat × TV := (62, .one .top (.obj i1 o2))
  let E58 : Nat × TV := (63, .one .top (.obj i1 o2))
  let E59 : Nat × TV := (64, .one .top (.obj i1 (o2 + 1)))
  let S74 : St := ⟨[E4, E2, E6, E7, E8], [B3], H⟩
  let S75 : St := ⟨[E4, E2, E11, E12, E13, E14], [B3], H⟩
  obtain ⟨x4, V5, hF⟩ := bind1_inv hF
  replace V5 := hgetT_inv V5
  let E5 : Nat × TV := (11, .one .top (.bool (x4.err_ != 0)))
  let E9 : Nat × TV := (10, .one .top (.int .i64 x4.err_))
  let E10 : Nat × TV := (3, .one .top (.int .i64 x4.err_))
  let E15 : Nat × TV := (16, .one .top (.int .i64 x4.err_))
  refine w_regO ⟨[E4, E2, E5], [B3], H⟩ ?_ ?_
  refine o_run 1 ⟨[(E1 p0), E2, (7, .one .top (Ptr.av p0))], [B3], H⟩ (by kernel_rfl) (by generalize p0 = qp0; cases qp0 <;> kernel_rfl) ?_
  refine o_eq (congrArg (fun q => (⟨[(0, .one .top (Ptr.av q)), E2, (7, .one .top (Ptr.av q))], [B3], H⟩ : St)) h3) ?_
  refine o_run 1 ⟨[E4, E2, E6, E7], [B3], H⟩ (by kernel_rfl) (by kernel_rfl) ?_
  refine o_run 1 S74 (by kernel_rfl) (by kernel_rfl) ?_
  refine o_one ⟨[E4, E2, E6, E7, E8, E9], [B3], H⟩ (st_ld (X := X) S74 38 V5 7 1 false (.one .top (.int .i64 x4.err_)) (some 10) (by kernel_rfl) (by kernel_rfl) (by kernel_rfl) (by kernel_rfl) (by kernel_rfl) (by kernel_rfl)) ?_
  refine o_run 1 ⟨[E4, E2, E6, E7, E8, E9, E5], [B3], H⟩ (by kernel_rfl) (by kernel_rfl) ?_
  exact o_end (by kernel_rfl) (by kernel_rfl)
  rcases if_inv hF with ⟨h6, hF⟩ | ⟨h6, hF⟩
  refine w_cT (m := .top) h6 (s1 := (⟨[E4, E2], [B3], H⟩ : St)) (by kernel_rfl) (by kernel_rfl) ?_
  refine w_seq ?_
  refine w_regD (.take 0 (.take 1 (.take 2 (.take 3 (.take 4 (.last 5 (.take 6 .done))))))) (by kernel_rfl) (⟨[E2, E10], [B3], H⟩ : St) ?_ ?_
  refine d_take ⟨[E4, E2, E11], [B3], H⟩ (by kernel_rfl) ?_
  refine d_take ⟨[E4, E2, E11, E12], [B3], H⟩ (by kernel_rfl) ?_
  refine d_take ⟨[E4, E2, E11, E12, E13], [B3], H⟩ (by kernel_rfl) ?_
  refine d_take S75 (by kernel_rfl) ?_
  refine d_take ⟨[E4, E2, E11, E12, E13, E14, E15], [B3], H⟩ (st_ld (X := X) S75 38 V5 7 1 false (.one .top (.int .i64 x4.err_)) (some 16) (by kernel_rfl) (by kernel_rfl) (by kernel_rfl) (by kernel_rfl) (by kernel_rfl) (by kernel_rfl)) ?_
  refine d_last ⟨[E4, E2, E16, E12, E13, E14, E15], [B3], H⟩ (by kernel_rfl) ?_
  refine d_take ⟨[E4, E2, E10, E16, E12, E13, E14, E15], [B3], H⟩ (by kernel_rfl) ?_
  exact d_end (by kernel_rfl)
  refine w_ret ?_
  obtain ⟨e0, e1, e2⟩ := some3_inv hF
  subst e0
  subst e1
  subst e2
  exact fin_imp (v := .tup [.agg [((.own 1), .sl 1 (List.map (eI .u32) ([] : List Int))), ((.own 1), .sl 4 (List.map e_api_Fixup ([] : List T_api_Fixup))), ((.own 1), .sl 2 (List.map e_api_Segment ([] : List T_api_Segment)))], .one .top (.int .i64 x4.err_)]) (by kernel_rfl) (by kernel_rfl) (by kernel_rfl)
  refine w_cF (m := .top) h6 (s1 := (⟨[E4, E2], [B3], H⟩ : St)) (by kernel_rfl) (by kernel_rfl) ?_
  refine w_skip ?_
  refine w_seq ?_
  obtain ⟨i8, h10, hF⟩ := bnd_inv hF
  let E17 : Nat × TV := (4, .one .top (.obj i8 0))
  let E36 : Nat × TV := (48, .one .top (.obj i8 0))
  let E61 : Nat × TV := (67, .one .top (.obj i8 0))
  obtain ⟨H7, h9, hF⟩ := bnd_inv hF
  let S76 : St := ⟨[E4, E2, E17, E21, E22, E23], [B3], H7⟩
  refine w_regO ⟨[E4, E2, E17], [B3], H7⟩ ?_ ?_
  refine o_run 1 ⟨[E4, E2, (17, .agg [((.own 1), .sl 2 (List.map e_api_Segment ([] : List T_api_Segment)))])], [B3], H⟩ (by kernel_rfl) (by kernel_rfl) ?_
  refine o_one ⟨[E4, E2, E18, (18, .one .top (.obj H.length 0))], [B3], (H ++ [[((.own 1), .sl 2 (List.map e_api_Segment ([] : List T_api_Segment)))]])⟩ (by kernel_rfl) ?_
  refine o_eq (congr2 (fun q u => (⟨[E4, E2, E18, (18, .one .top (.obj q 0))], [B3], u⟩ : St)) h10 h9) ?_
  refine o_run 1 ⟨[E4, E2, E17, E18, (18, .one .top (.obj i8 0))], [B3], H7⟩ (by kernel_rfl) (by kernel_rfl) ?_
  exact o_end (by kernel_rfl) (by kernel_rfl)
  refine w_seq ?_
  refine w_seq ?_
  obtain ⟨x11, V12, hF⟩ := bind1_inv hF
  replace V12 := hgetT_inv V12
  obtain ⟨r13, c14, hF⟩ := bind1_inv hF
  let E19 : Nat × TV := (22, .one (.own 1) (.sl 2 (List.map e_api_Segment r13)))
  let E20 : Nat × TV := (23, .one .top (.int .i64 (r13.length : Int)))
  let S77 : St := ⟨[E4, E2, E17, E21, E22, E23, E19], [B3], H7⟩
  refine w_regO ⟨[E4, E2, E17, E19, E20, (24, .one .top (.int .i64 0))], [B3], H7⟩ ?_ ?_
  refine o_run 2 ⟨[E4, E2, E17, E21, E22], [B3], H7⟩ (by kernel_rfl) (by kernel_rfl) ?_
  refine o_run 1 S76 (by kernel_rfl) (by kernel_rfl) ?_
  refine o_one S77 (st_call (d := (some 22)) (fz := false) (pure := true) (own := false) S76 (ok_ranges_Builder_List H7 c14) (by kernel_rfl) (by kernel_rfl)) ?_
  refine o_one ⟨[E4, E2, E17, E21, E22, E23, E19, E20], [B3], H7⟩ (st_len S77 r13 e_api_Segment (some 23) (by kernel_rfl) (by kernel_rfl)) ?_
  refine o_run 1 ⟨[E4, E2, E17, E21, E22, E23, E19, E20, (24, .one .top (.int .i64 0))], [B3], H7⟩ (by kernel_rfl) (by kernel_rfl) ?_
  exact o_end (by kernel_rfl) (by kernel_rfl)
  refine w_block ?_
  obtain ⟨r29, hL30, hF⟩ := bind1_inv hF
  refine w_loop (fun (x : (Int × Heap)) => (⟨[E4, E2, E17, E19, E20, (24, .one .top (.int .i64 x.1))], [B3], x.2⟩ : St)) (fun (y : (Heap)) => ((.exit 0, (⟨[E4, E2, E17], [B3], y⟩ : St)) : Ex × St)) hL30 (by kernel_rfl) ?_ ?_
  rintro ⟨a15, H16⟩ o hF
  replace hF : emit_Code_Finish_L1 r13 i1 o2 i8 a15 H16 = some o := hF
  let E24 : Nat × TV := (24, .one .top (.int .i64 a15))
  let S78 : St := ⟨[E4, E2, E17, E19, E20, E24], [B3], H16⟩
  let S82 : St := ⟨[E4, E2, E17], [B3], H16⟩
  unfold emit_Code_Finish_L1 at hF
  refine w_seq ?_
  refine w_reg ⟨[E4, E2, E17, E19, E20, E24, (25, .one .top (.bool (decide (a15 < (r13.length : Int)))))], [B3], H16⟩ (by kernel_rfl) ?_
  refine w_seq ?_
  rcases if_inv hF with ⟨h17, hF⟩ | ⟨h17, hF⟩
  refine w_cT (m := .top) h17 (s1 := S78) (by kernel_rfl) (by kernel_rfl) ?_
  refine w_skip ?_
  refine w_seq ?_
  refine w_block ?_
  refine w_seq ?_
  obtain ⟨x18, h19, hF⟩ := bind1_inv hF
  let B26 : Nat × List MC := (6, [(.top, .int .i64 x18.Start_), (.top, .int .i64 x18.Pad_)])
  let E27 : Nat × TV := (26, .one .top (.rd .bl (.own 0) [.int .i64 x18.Start_, .int .i64 x18.Pad_] 0))
  let E30 : Nat × TV := (29, .one .top (.int .i64 x18.Start_))
  let E48 : Nat × TV := (44, .one .top (.int .i64 x18.Pad_))
  let S79 : St := ⟨[E4, E2, E17, E25, E19, E20, E24], [B3, B26], H16⟩
  let S80 : St := ⟨[E4, E2, E17, E25, E19, E20, E24, E29, E30, E31, E32, E33], [B3, B26], H16⟩
  let S84 : St := ⟨[E4, E2, E17, E25, E19, E20, E24, E43, E44, E45], [B3, B26], H16⟩
  refine w_regO S79 ?_ ?_
  refine o_one ⟨[E4, E2, E17, E19, E20, E24, E27], [B3], H16⟩ (st_ix (X := X) S78 89 149 2 h19 e_api_Segment (.own 1) (some 26) (by kernel_rfl) (by kernel_rfl) (by kernel_rfl) (by kernel_rfl)) ?_
  refine o_run 3 ⟨[E4, E2, E17, E25, E19, E20, E24, E27, (27, .agg [(.top, .int .i64 x18.Start_), (.top, .int .i64 x18.Pad_)])], [B3, B26], H16⟩ (by kernel_rfl) (by kernel_rfl) ?_
  exact o_end (by kernel_rfl) (by kernel_rfl)
  refine w_seq ?_
  refine w_seq ?_
  obtain ⟨x20, V21, hF⟩ := bind1_inv hF
  replace V21 := hgetT_inv V21
  let E28 : Nat × TV := (35, .one .top (.bool (decide (x18.Start_ ≥ (x20.words_.length : Int)))))
  let E34 : Nat × TV := (33, .one .bh (.sl 1 (List.map (eI .u32) x20.words_)))
  let E35 : Nat × TV := (34, .one .top (.int .i64 (x20.words_.length : Int)))
  let E46 : Nat × TV := (42, .one .bh (.sl 1 (List.map (eI .i64) x20.pads_)))
  let S81 : St := ⟨[E4, E2, E17, E25, E19, E20, E24, E29, E30, E31, E32, E33, E34], [B3, B26], H16⟩
  let S85 : St := ⟨[E4, E2, E17, E25, E19, E20, E24, E43, E44, E45, E46, E47, E48], [B3, B26], H16⟩
  refine w_regD (.take 0 (.take 1 (.take 2 (.take 3 (.take 4 (.take 5 (.take 6 (.take 7 .done)))))))) (by kernel_rfl) (⟨[E4, E2, E17, E25, E19, E20, E24, E28], [B3, B26], H16⟩ : St) ?_ ?_
  refine d_take ⟨[E4, E2, E17, E25, E19, E20, E24, E29], [B3, B26], H16⟩ (by kernel_rfl) ?_
  refine d_take ⟨[E4, E2, E17, E25, E19, E20, E24, E29, E30], [B3, B26], H16⟩ (by kernel_rfl) ?_
  refine d_take ⟨[E4, E2, E17, E25, E19, E20, E24, E29, E30, E31], [B3, B26], H16⟩ (by kernel_rfl) ?_
  refine d_take ⟨[E4, E2, E17, E25, E19, E20, E24, E29, E30, E31, E32], [B3, B26], H16⟩ (by kernel_rfl) ?_
  refine d_take S80 (by kernel_rfl) ?_
  refine d_take S81 (st_ld (X := X) S80 30 V21 0 1 false (.one .bh (.sl 1 (List.map (eI .u32) x20.words_))) (some 33) (by kernel_rfl) (by kernel_rfl) (by kernel_rfl) (by kernel_rfl) (by kernel_rfl) (by kernel_rfl)) ?_
  refine d_take ⟨[E4, E2, E17, E25, E19, E20, E24, E29, E30, E31, E32, E33, E34, E35], [B3, B26], H16⟩ (st_len S81 x20.words_ (eI .u32) (some 34) (by kernel_rfl) (by kernel_rfl)) ?_
  refine d_take ⟨[E4, E2, E17, E25, E19, E20, E24, E29, E30, E31, E32, E33, E34, E35, E28], [B3, B26], H16⟩ (by kernel_rfl) ?_
  exact d_end (by kernel_rfl)
  rcases if_inv hF with ⟨h22, hF⟩ | ⟨h22, hF⟩
  refine w_cT (m := .top) h22 (s1 := S82) (by kernel_rfl) (by kernel_rfl) ?_
  refine w_exit ?_
  refine e_out rfl ?_
  cases hF
  exact ⟨_, rfl, (by kernel_rfl)⟩
  refine w_cF (m := .top) h22 (s1 := S79) (by kernel_rfl) (by kernel_rfl) ?_
  refine w_skip ?_
  refine w_seq ?_
  refine w_seq ?_
  refine w_reg ⟨[E4, E2, E17, E25, E19, E20, E24, (38, .one .top (.bool (x18.Pad_ != (-1))))], [B3, B26], H16⟩ (by kernel_rfl) ?_
  refine w_join (α := (T_api_Segment)) (fun x => (⟨[E4, E2, E17, E25, E19, E20, E24], [B3, (6, [(.top, .int .i64 x.Start_), (.top, .int .i64 x.Pad_)])], H16⟩ : St)) (fun x => emit_Code_Finish_j2 H16 i8 a15 x = some o) ?_ ?_
  rintro j23 hF
  replace hF : emit_Code_Finish_j2 H16 i8 a15 j23 = some o := hF
  let E38 : Nat × TV := (50, .one .top (.int .i64 j23.Start_))
  let E40 : Nat × TV := (52, .one .top (.int .i64 j23.Pad_))
  let B41 : Nat × List MC := (6, [(.top, .int .i64 j23.Start_), (.top, .int .i64 j23.Pad_)])
  let S83 : St := ⟨[E4, E2, E17, E25, E19, E20, E24, E36, E37, E38, E39, E40], [B3, B41], H16⟩
  unfold emit_Code_Finish_j2 at hF
  obtain ⟨H25, c24, hF⟩ := bind1_inv hF
  refine w_regO ⟨[E4, E2, E17, E19, E20, E24], [B3], H25⟩ ?_ ?_
  refine o_run 5 S83 (by kernel_rfl) (by kernel_rfl) ?_
  refine o_one ⟨[E4, E2, E17, E25, E19, E20, E24, E36, E37, E38, E39, E40, (53, .tup [])], [B3, B41], H25⟩ (st_call (d := (some 53)) (fz := false) (pure := false) (own := false) S83 (ok_ranges_Builder_Mark H16 c24) (by kernel_rfl) (by kernel_rfl)) ?_
  exact o_end (by kernel_rfl) (by kernel_rfl)
  refine w_reg ⟨[E4, E2, E17, E19, E20, (24, .one .top (.int .i64 (IntKind.wrap .i64 (a15 + 1))))], [B3], H25⟩ (by kernel_rfl) ?_
  cases hF
  exact ⟨_, rfl, (by kernel_rfl)⟩
  rcases if_inv hF with ⟨h26, hF⟩ | ⟨h26, hF⟩
  refine w_cT (m := .top) h26 (s1 := S79) (by kernel_rfl) (by kernel_rfl) ?_
  obtain ⟨x27, h28, hF⟩ := bind1_inv hF
  let B42 : Nat × List MC := (6, [(.top, .int .i64 x18.Start_), (.top, .int .i64 x27)])
  let E49 : Nat × TV := (45, .one .top (.rd .bh .bh [.int .i64 x27] 0))
  let E50 : Nat × TV := (46, .one .top (.int .i64 x27))
  refine w_regD (.take 0 (.take 1 (.take 2 (.take 3 (.take 4 (.last 5 (.take 6 (.take 7 (.take 8 (.last 9 .done)))))))))) (by kernel_rfl) (⟨[E4, E2, E17, E25, E19, E20, E24], [B3, B42], H16⟩ : St) ?_ ?_
  refine d_take ⟨[E4, E2, E17, E25, E19, E20, E24, E43], [B3, B26], H16⟩ (by kernel_rfl) ?_
  refine d_take ⟨[E4, E2, E17, E25, E19, E20, E24, E43, E44], [B3, B26], H16⟩ (by kernel_rfl) ?_
  refine d_take S84 (by kernel_rfl) ?_
  refine d_take ⟨[E4, E2, E17, E25, E19, E20, E24, E43, E44, E45, E46], [B3, B26], H16⟩ (st_ld (X := X) S84 105 V21 3 1 false (.one .bh (.sl 1 (List.map (eI .i64) x20.pads_))) (some 42) (by kernel_rfl) (by kernel_rfl) (by kernel_rfl) (by kernel_rfl) (by kernel_rfl) (by kernel_rfl)) ?_
  refine d_take ⟨[E4, E2, E17, E25, E19, E20, E24, E43, E44, E45, E46, E47], [B3, B26], H16⟩ (by kernel_rfl) ?_
  refine d_last S85 (by kernel_rfl) ?_
  refine d_take ⟨[E4, E2, E17, E25, E19, E20, E24, E43, E44, E45, E46, E47, E48, E49], [B3, B26], H16⟩ (st_ix (X := X) S85 105 3 1 h28 (eI .i64) .bh (some 45) (by kernel_rfl) (by kernel_rfl) (by kernel_rfl) (by kernel_rfl)) ?_
  refine d_take ⟨[E4, E2, E17, E25, E19, E20, E24, E43, E44, E45, E46, E47, E48, E49, E50], [B3, B26], H16⟩ (by kernel_rfl) ?_
  refine d_take ⟨[E4, E2, E17, E25, E19, E20, E24, E43, E44, E45, E46, E47, E48, E49, E50, (47, .one .top (.loc 6 1))], [B3, B26], H16⟩ (by kernel_rfl) ?_
  refine d_last ⟨[E4, E2, E17, E25, E19, E20, E24, E43, E44, E45, E46, E47, E48, E49, E50, (47, .one .top (.loc 6 1))], [B3, B42], H16⟩ (by kernel_rfl) ?_
  exact d_end (by kernel_rfl)
  exact ⟨(T_api_Segment.mk x18.Start_ x27), hF, (by kernel_rfl)⟩
  refine w_cF (m := .top) h26 (s1 := S79) (by kernel_rfl) (by kernel_rfl) ?_
  refine w_skip ?_
  exact ⟨x18, hF, (by kernel_rfl)⟩
  refine w_cF (m := .top) h17 (s1 := S82) (by kernel_rfl) (by kernel_rfl) ?_
  refine w_exit ?_
  cases hF
  exact ⟨_, rfl, (by kernel_rfl)⟩
  obtain ⟨H31, hy⟩ : ∃ y, y = r29 := ⟨_, rfl⟩
  subst hy
  let S86 : St := ⟨[E4, E2, E17, E53, E54, E55], [B3], H31⟩
  refine w_oe (i := 0) (s := (⟨[E4, E2, E17], [B3], H31⟩ : St)) (by kernel_rfl) ?_
  refine e_here ?_
  refine w_seq ?_
  obtain ⟨x32, V33, hF⟩ := bind1_inv hF
  replace V33 := hgetT_inv V33
  let E56 : Nat × TV := (59, .one .bh (.sl 1 (List.map (eI .u32) x32.words_)))
  let E60 : Nat × TV := (65, .one .bh (.sl 4 (List.map e_api_Fixup x32.fixups_)))
  let S87 : St := ⟨[E4, E2, E17, E53, E54, E55, E56, E57, E58, E59], [B3], H31⟩
  let S95 : St := ⟨[E4, E2, E17, E68, E53, E54, E55, E56, E70, E57, E58, E59, E60, E61], [B3], H31⟩
  let S96 : St := ⟨[E4, E2, E17, E62, E53, E54, E55, E56, E70, E57, E58, E59, E60, E61], [B3], H31⟩
  obtain ⟨v34, h35, hF⟩ := bind1_inv hF
  let E69 : Nat × TV := (60, .one (.own 1) (.sl 1 (List.map (eI .u32) v34)))
  let S89 : St := ⟨[E4, E2, E17, E62, E53, E54, E55, E56, E69, E70, E57, E58, E59, E60, E61], [B3], H31⟩
  let S91 : St := ⟨[E4, E2, E17, E62, E53, E54, E55, E56, E69, E64, E57, E58, E59, E60, E61], [B3], H31⟩
  obtain ⟨v36, h37, hF⟩ := bind1_inv hF
  let E71 : Nat × TV := (66, .one (.own 1) (.sl 4 (List.map e_api_Fixup v36)))
  let S90 : St := ⟨[E4, E2, E17, E62, E53, E54, E55, E56, E69, E64, E57, E58, E59, E60, E71, E61], [B3], H31⟩
  obtain ⟨r38, c39, hF⟩ := bind1_inv hF
  let B52 : Nat × List MC := (2, [((.own 1), .sl 1 (List.map (eI .u32) v34)), ((.own 1), .sl 4 (List.map e_api_Fixup v36)), ((.own 1), .sl 2 (List.map e_api_Segment r38))])
  let E72 : Nat × TV := (68, .one (.own 1) (.sl 2 (List.map e_api_Segment r38)))
  let E73 : Nat × TV := (69, .agg [((.own 1), .sl 1 (List.map (eI .u32) v34)), ((.own 1), .sl 4 (List.map e_api_Fixup v36)), ((.own 1), .sl 2 (List.map e_api_Segment r38))])
  let S88 : St := ⟨[E4, E2, E51, E17, E62, E53, E54, E55, E56, E63, E64, E57, E58, E59, E60, E65, E61, E66, E67], [B52], H31⟩
  let S92 : St := ⟨[E4, E2, E17, E62, E53, E54, E55, E56, E69, E64, E57, E58, E59, E60, E71, E61, E72], [B3], H31⟩
  let S93 : St := ⟨[E4, E2, E17, E62, E53, E54, E55, E56, E63, E64, E57, E58, E59, E60, E65, E61, E66, E73], [B3], H31⟩
  let S94 : St := ⟨[E4, E2, E17, E62, E53, E54, E55, E56, E63, E64, E57, E58, E59, E60, E65, E61, E66, E67], [B52], H31⟩
  let K97 : Sch := .last 5 (.last 11 (.last 13 (.take 14 (.last 15 (.take 16 .done)))))
  refine w_regD (.take 1 (.take 2 (.take 3 (.take 4 (.take 7 (.take 8 (.take 9 (.take 10 (.take 12 (.alt 0 (.alt 5 (.last 6 (.last 11 (.last 13 (.take 14 (.last 15 (.take 16 .done)))))) (.last 6 K97)) (.last 6 (.last 0 K97)))))))))))) (by kernel_rfl) (⟨[E2, E51], [B52], H31⟩ : St) ?_ ?_
  refine d_take ⟨[E4, E2, E17, E53], [B3], H31⟩ (by kernel_rfl) ?_
  refine d_take ⟨[E4, E2, E17, E53, E54], [B3], H31⟩ (by kernel_rfl) ?_
  refine d_take S86 (by kernel_rfl) ?_
  refine d_take ⟨[E4, E2, E17, E53, E54, E55, E56], [B3], H31⟩ (st_ld (X := X) S86 30 V33 0 1 false (.one .bh (.sl 1 (List.map (eI .u32) x32.words_))) (some 59) (by kernel_rfl) (by kernel_rfl) (by kernel_rfl) (by kernel_rfl) (by kernel_rfl) (by kernel_rfl)) ?_
  refine d_take ⟨[E4, E2, E17, E53, E54, E55, E56, E57], [B3], H31⟩ (by kernel_rfl) ?_
  refine d_take ⟨[E4, E2, E17, E53, E54, E55, E56, E57, E58], [B3], H31⟩ (by kernel_rfl) ?_
  refine d_take S87 (by kernel_rfl) ?_
  refine d_take ⟨[E4, E2, E17, E53, E54, E55, E56, E57, E58, E59, E60], [B3], H31⟩ (st_ld (X := X) S87 88 V33 1 1 false (.one .bh (.sl 4 (List.map e_api_Fixup x32.fixups_))) (some 65) (by kernel_rfl) (by kernel_rfl) (by kernel_rfl) (by kernel_rfl) (by kernel_rfl) (by kernel_rfl)) ?_
  refine d_take ⟨[E4, E2, E17, E53, E54, E55, E56, E57, E58, E59, E60, E61], [B3], H31⟩ (by kernel_rfl) ?_
  refine q_in S88 ?_ ?_
  refine q_alt ⟨[E4, E2, E17, E68, E53, E54, E55, E56, E57, E58, E59, E60, E61], [B3], H31⟩ (by kernel_rfl) ?_ ?_
  refine q_alt ⟨[E4, E2, E17, E62, E53, E54, E55, E56, E69, E57, E58, E59, E60, E61], [B3], H31⟩ (st_app (X := X) (⟨[E4, E2, E17, E62, E53, E54, E55, E56, E57, E58, E59, E60, E61], [B3], H31⟩ : St) 4 h35 30 30 22 1 0 [(.top, .int .u32 0)] .bh (eI .u32) 9 (some 60) (by kernel_rfl) (by kernel_rfl) (by kernel_rfl) (by kernel_rfl) (by kernel_rfl) (by kernel_rfl) (by kernel_rfl) (by kernel_rfl) (depth_flat rfl fun _ => rfl) (fun _ => rfl) (by kernel_rfl)) ?_ ?_
  refine q_last S89 (by kernel_rfl) ?_
  refine q_last S90 (st_app (X := X) S91 32 h37 88 88 113 4 0 [(.top, .int .i64 0), (.top, .int .i64 0), (.top, .int .i64 0), (.top, .int .i64 0)] .bh e_api_Fixup 9 (some 66) (by kernel_rfl) (by kernel_rfl) (by kernel_rfl) (by kernel_rfl) (by kernel_rfl) (by kernel_rfl) (by kernel_rfl) (by kernel_rfl) (depth_flat rfl fun _ => rfl) (fun _ => rfl) (by kernel_rfl)) ?_
  refine q_last S92 (st_call (d := (some 68)) (fz := false) (pure := true) (own := false) S90 (ok_ranges_Builder_List H31 c39) (by kernel_rfl) (by kernel_rfl)) ?_
  refine q_take S93 (by kernel_rfl) ?_
  refine q_last S94 (by kernel_rfl) ?_
  refine q_take S88 (by kernel_rfl) ?_
  exact q_end (by kernel_rfl)
  refine q_last S95 (by kernel_rfl) ?_
  refine q_last S89 (st_app (X := X) S96 4 h35 30 30 22 1 0 [(.top, .int .u32 0)] .bh (eI .u32) 9 (some 60) (by kernel_rfl) (by kernel_rfl) (by kernel_rfl) (by kernel_rfl) (by kernel_rfl) (by kernel_rfl) (by kernel_rfl) (by kernel_rfl) (depth_flat rfl fun _ => rfl) (fun _ => rfl) (by kernel_rfl)) ?_
  refine q_last S90 (st_app (X := X) S91 32 h37 88 88 113 4 0 [(.top, .int .i64 0), (.top, .int .i64 0), (.top, .int .i64 0), (.top, .int .i64 0)] .bh e_api_Fixup 9 (some 66) (by kernel_rfl) (by kernel_rfl) (by kernel_rfl) (by kernel_rfl) (by kernel_rfl) (by kernel_rfl) (by kernel_rfl) (by kernel_rfl) (depth_flat rfl fun _ => rfl) (fun _ => rfl) (by kernel_rfl)) ?_
  refine q_last S92 (st_call (d := (some 68)) (fz := false) (pure := true) (own := false) S90 (ok_ranges_Builder_List H31 c39) (by kernel_rfl) (by kernel_rfl)) ?_
  refine q_take S93 (by kernel_rfl) ?_
  refine q_last S94 (by kernel_rfl) ?_
  refine q_take S88 (by kernel_rfl) ?_
  exact q_end (by kernel_rfl)
  refine q_last ⟨[E4, E2, E17, E53, E54, E55, E56, E70, E57, E58, E59, E60, E61], [B3], H31⟩ (by kernel_rfl) ?_
  refine q_last S95 (by kernel_rfl) ?_
  refine q_last S89 (st_app (X := X) S96 4 h35 30 30 22 1 0 [(.top, .int .u32 0)] .bh (eI .u32) 9 (some 60) (by kernel_rfl) (by kernel_rfl) (by kernel_rfl) (by kernel_rfl) (by kernel_rfl) (by kernel_rfl) (by kernel_rfl) (by kernel_rfl) (depth_flat rfl fun _ => rfl) (fun _ => rfl) (by kernel_rfl)) ?_
  refine q_last S90 (st_app (X := X) S91 32 h37 88 88 113 4 0 [(.top, .int .i64 0), (.top, .int .i64 0), (.top, .int .i64 0), (.top, .int .i64 0)] .bh e_api_Fixup 9 (some 66) (by kernel_rfl) (by kernel_rfl) (by kernel_rfl) (by kernel_rfl) (by kernel_rfl) (by kernel_rfl) (by kernel_rfl) (by kernel_rfl) (depth_flat rfl fun _ => rfl) (fun _ => rfl) (by kernel_rfl)) ?_
  refine q_last S92 (st_call (d := (some 68)) (fz := false) (pure := true) (own := false) S90 (ok_ranges_Builder_List H31 c39) (by kernel_rfl) (by kernel_rfl)) ?_
  refine q_take S93 (by kernel_rfl) ?_
  refine q_last S94 (by kernel_rfl) ?_
  refine q_take S88 (by kernel_rfl) ?_
  exact q_end (by kernel_rfl)
  kernel_rfl
  refine w_ret ?_
  obtain ⟨e0, e1, e2⟩ := some3_inv hF
  subst e0
  subst e1
  subst e2
  exact fin_imp (v := .tup [.agg [((.own 1), .sl 1 (List.map (eI .u32) v34)), ((.own 1), .sl 4 (List.map e_api_Fixup v36)), ((.own 1), .sl 2 (List.map e_api_Segment r38))], .one .top (.int .i64 0)]) (by kernel_rfl) (by kernel_rfl) (by kernel_rfl)
noncomputable def ref01_Words_L1 (p0 : (List Int)) (p1 : (List Int)) (a2 : Int) : Option ((Int) ⊕ (Unit ⊕ Unit)) :=
  if (decide (a2 < (p0.length : Int))) = true then (bind1 (gi p0 a2) fun x4 =>
  bind1 (gi p1 a2) fun x6 =>
  if (x4 != x6) = true then (some (Sum.inr (Sum.inr ())))
  else (some (Sum.inl (IntKind.wrap .i64 (a2 + 1)))))
  else (some (Sum.inr (Sum.inl ())))
noncomputable def ref01_Words  (p0 : (List Int)) (p1 : (List Int)) : Option (Bool) :=
  if ((p0.length : Int) != (p1.length : Int)) = true then (some false)
  else (bind1 (loopO (fun (x : (Int)) => ref01_Words_L1 p0 p1 x) 0) (sum2 (fun (_ : Unit) =>
  some true) (fun (_ : Unit) =>
  some false)))
theorem ok_ref01_Words (H : Heap) {p0 : (List Int)} {p1 : (List Int)} {ra : Bool} (hF : ref01_Words p0 p1 = some ra) : evS X 55 [.one .bl (.sl 1 (List.map (eI .u32) p0)), .one (.own 1) (.sl 1 (List.map (eI .u32) p1))] H = some (.one .top (.bool ra), H) := by
  let E1 : Nat × TV := (0, .one .bl (.sl 1 (List.map (eI .u32) p0)))
  let E2 : Nat × TV := (1, .one (.own 1) (.sl 1 (List.map (eI .u32) p1)))
  let E3 : Nat × TV := (10, .one .top (.bool ((p0.length : Int) != (p1.length : Int))))
  let E4 : Nat × TV := (6, .one .bl (.sl 1 (List.map (eI .u32) p0)))
  let E5 : Nat × TV := (7, .one .top (.int .i64 (p0.length : Int)))
  let E6 : Nat × TV := (8, .one .bl (.sl 1 (List.map (eI .u32) p1)))
  let E7 : Nat × TV := (9, .one .top (.int .i64 (p1.length : Int)))
  let E8 : Nat × TV := (4, .one .top (.bool false))
  let E12 : Nat × TV := (12, .one .bl (.sl 1 (List.map (eI .u32) p0)))
  let E13 : Nat × TV := (13, .one .top (.int .i64 (p0.length : Int)))
  let E15 : Nat × TV := (17, .one .bl (.sl 1 (List.map (eI .u32) p0)))
  let E19 : Nat × TV := (21, .one .bl (.sl 1 (List.map (eI .u32) p1)))
  let S22 : St := ⟨[E1, E2], [], H⟩
  let S23 : St := ⟨[E1, E2, E4, E5, E6], [], H⟩
  let S24 : St := ⟨[], [], H⟩
  let S25 : St := ⟨[E8], [], H⟩
  refine w_fun Try.func55 rfl (by kernel_rfl) true (by kernel_rfl) (s0 := S22) (by kernel_rfl) ?_
  unfold ref01_Words at hF
  refine w_seq ?_
  refine w_reg S22 (by kernel_rfl) ?_
  refine w_seq ?_
  refine w_seq ?_
  refine w_regO ⟨[E1, E2, E3], [], H⟩ ?_ ?_
  refine o_run 1 ⟨[E1, E2, E4], [], H⟩ (by kernel_rfl) (by kernel_rfl) ?_
  refine o_one ⟨[E1, E2, E4, E5], [], H⟩ (st_len (⟨[E1, E2, E4], [], H⟩ : St) p0 (eI .u32) (some 7) (by kernel_rfl) (by kernel_rfl)) ?_
  refine o_run 1 S23 (by kernel_rfl) (by kernel_rfl) ?_
  refine o_one ⟨[E1, E2, E4, E5, E6, E7], [], H⟩ (st_len S23 p1 (eI .u32) (some 9) (by kernel_rfl) (by kernel_rfl)) ?_
  refine o_run 1 ⟨[E1, E2, E4, E5, E6, E7, E3], [], H⟩ (by kernel_rfl) (by kernel_rfl) ?_
  exact o_end (by kernel_rfl) (by kernel_rfl)
  rcases if_inv hF with ⟨h1, hF⟩ | ⟨h1, hF⟩
  refine w_cT (m := .top) h1 (s1 := S24) (by kernel_rfl) (by kernel_rfl) ?_
  refine w_seq ?_
  refine w_reg S25 (by kernel_rfl) ?_
  refine w_ret ?_
  obtain e0 := some1_inv hF
  subst e0
  exact fin_pure (v := .one .top (.bool false)) (by kernel_rfl) (by kernel_rfl) rfl (by kernel_rfl)
  refine w_cF (m := .top) h1 (s1 := S22) (by kernel_rfl) (by kernel_rfl) ?_
  refine w_skip ?_
  refine w_seq ?_
  refine w_seq ?_
  refine w_reg ⟨[E1, E2, (5, .one .top (.int .i64 0))], [], H⟩ (by kernel_rfl) ?_
  refine w_block ?_
  obtain ⟨r9, hL10, hF⟩ := bind1_inv hF
  refine w_loop (fun (x : (Int)) => (⟨[E1, E2, (5, .one .top (.int .i64 x))], [], H⟩ : St)) (Sum.elim (fun (y : Unit) => ((.exit 0, S24) : Ex × St)) (fun (y : Unit) => ((.ret, S25) : Ex × St))) hL10 (by kernel_rfl) ?_ ?_
  rintro a2 o hF
  replace hF : ref01_Words_L1 p0 p1 a2 = some o := hF
  let E9 : Nat × TV := (5, .one .top (.int .i64 a2))
  let E10 : Nat × TV := (14, .one .top (.bool (decide (a2 < (p0.length : Int)))))
  let E11 : Nat × TV := (11, .one .top (.int .i64 a2))
  let E16 : Nat × TV := (18, .one .top (.int .i64 a2))
  let E20 : Nat × TV := (22, .one .top (.int .i64 a2))
  let S26 : St := ⟨[E1, E2, E9, E11, E12], [], H⟩
  let S27 : St := ⟨[E1, E2, E9, E15, E16], [], H⟩
  unfold ref01_Words_L1 at hF
  refine w_seq ?_
  refine w_seq ?_
  refine w_regO ⟨[E1, E2, E9, E10], [], H⟩ ?_ ?_
  refine o_run 2 S26 (by kernel_rfl) (by kernel_rfl) ?_
  refine o_one ⟨[E1, E2, E9, E11, E12, E13], [], H⟩ (st_len S26 p0 (eI .u32) (some 13) (by kernel_rfl) (by kernel_rfl)) ?_
  refine o_run 1 ⟨[E1, E2, E9, E11, E12, E13, E10], [], H⟩ (by kernel_rfl) (by kernel_rfl) ?_
  exact o_end (by kernel_rfl) (by kernel_rfl)
  rcases if_inv hF with ⟨h3, hF⟩ | ⟨h3, hF⟩
  refine w_cT (m := .top) h3 (s1 := (⟨[E1, E2, E9], [], H⟩ : St)) (by kernel_rfl) (by kernel_rfl) ?_
  refine w_skip ?_
  refine w_seq ?_
  refine w_block ?_
  refine w_seq ?_
  obtain ⟨x4, h5, hF⟩ := bind1_inv hF
  let E17 : Nat × TV := (19, .one .top (.rd .bl .bl [.int .u32 x4] 0))
  let E18 : Nat × TV := (20, .one .top (.int .u32 x4))
  let S28 : St := ⟨[E1, E2, E9, E15, E16, E17, E18, E19, E20], [], H⟩
  obtain ⟨x6, h7, hF⟩ := bind1_inv hF
  let E14 : Nat × TV := (25, .one .top (.bool (x4 != x6)))
  let E21 : Nat × TV := (23, .one .top (.rd .bl .bl [.int .u32 x6] 0))
  refine w_regD (.take 0 (.take 1 (.take 2 (.take 3 (.take 4 (.take 5 (.take 6 (.take 7 (.take 8 .done))))))))) (by kernel_rfl) (⟨[E1, E2, E9, E14], [], H⟩ : St) ?_ ?_
  refine d_take ⟨[E1, E2, E9, E15], [], H⟩ (by kernel_rfl) ?_
  refine d_take S27 (by kernel_rfl) ?_
  refine d_take ⟨[E1, E2, E9, E15, E16, E17], [], H⟩ (st_ix (X := X) S27 30 22 1 h5 (eI .u32) .bl (some 19) (by kernel_rfl) (by kernel_rfl) (by kernel_rfl) (by kernel_rfl)) ?_
  refine d_take ⟨[E1, E2, E9, E15, E16, E17, E18], [], H⟩ (by kernel_rfl) ?_
  refine d_take ⟨[E1, E2, E9, E15, E16, E17, E18, E19], [], H⟩ (by kernel_rfl) ?_
  refine d_take S28 (by kernel_rfl) ?_
  refine d_take ⟨[E1, E2, E9, E15, E16, E17, E18, E19, E20, E21], [], H⟩ (st_ix (X := X) S28 30 22 1 h7 (eI .u32) .bl (some 23) (by kernel_rfl) (by kernel_rfl) (by kernel_rfl) (by kernel_rfl)) ?_
  refine d_take ⟨[E1, E2, E9, E15, E16, E17, E18, E19, E20, E21, (24, .one .top (.int .u32 x6))], [], H⟩ (by kernel_rfl) ?_
  refine d_take ⟨[E1, E2, E9, E15, E16, E17, E18, E19, E20, E21, (24, .one .top (.int .u32 x6)), E14], [], H⟩ (by kernel_rfl) ?_
  exact d_end (by kernel_rfl)
  rcases if_inv hF with ⟨h8, hF⟩ | ⟨h8, hF⟩
  refine w_cT (m := .top) h8 (s1 := S24) (by kernel_rfl) (by kernel_rfl) ?_
  refine w_seq ?_
  refine w_reg S25 (by kernel_rfl) ?_
  refine w_ret ?_
  cases hF
  exact ⟨_, rfl, (by kernel_rfl)⟩
  refine w_cF (m := .top) h8 (s1 := (⟨[E1, E2, E9], [], H⟩ : St)) (by kernel_rfl) (by kernel_rfl) ?_
  refine w_skip ?_
  refine w_reg ⟨[E1, E2, (5, .one .top (.int .i64 (IntKind.wrap .i64 (a2 + 1))))], [], H⟩ (by kernel_rfl) ?_
  cases hF
  exact ⟨_, rfl, (by kernel_rfl)⟩
  refine w_cF (m := .top) h3 (s1 := S24) (by kernel_rfl) (by kernel_rfl) ?_
  refine w_exit ?_
  cases hF
  exact ⟨_, rfl, (by kernel_rfl)⟩
  rcases sum2_inv hF with ⟨r9', rfl, hF⟩ | ⟨r9', rfl, hF⟩
  refine w_oe (i := 0) (s := S24) (by kernel_rfl) ?_
  refine e_here ?_
  refine w_seq ?_
  refine w_reg ⟨[(4, .one .top (.bool true))], [], H⟩ (by kernel_rfl) ?_
  refine w_ret ?_
  obtain e0 := some1_inv hF
  subst e0
  exact fin_pure (v := .one .top (.bool true)) (by kernel_rfl) (by kernel_rfl) rfl (by kernel_rfl)
  refine w_or (s := S25) (by kernel_rfl) ?_
  obtain e0 := some1_inv hF
  subst e0
  exact fin_pure (v := .one .top (.bool false)) (by kernel_rfl) (by kernel_rfl) rfl (by kernel_rfl)
noncomputable def law17_awake (H : Heap) : Option (Heap × Bool) :=
  bind2 (emit_New H) fun H3 r1 =>
  if r1.isNil = true then (some (H3, false))
  else (bind2 (emit_Code_Jump H3 r1 22 0) fun H7 r5 =>
  bind2 (emit_Code_Reg H7 r1 1 0) fun H10 r8 =>
  bind1 (emit_Code_Land H10 r1 r5) fun H12 =>
  bind2 (emit_Code_Reg H12 r1 1 0) fun H15 r13 =>
  bind3 (emit_Code_Finish H15 r1) fun H19 r16 r17 =>
  bind1 (if (r17 == 0) = true then (bind1 (ref01_Words r16.Words_ ([369098753, 16777216, 16777216] : List Int)) fun r21 =>
  some r21) else (some false)) fun w23 =>
  some (H19, w23))
theorem ok_law17_awake (H : Heap) {ra : Bool} {Hr : Heap} (hF : law17_awake H = some (Hr, ra)) : evS X 43 [] H = some (.one .top (.bool ra), Hr) := by
  let E9 : Nat × TV := (3, .one .top (.loc 3 0))
  let E15 : Nat × TV := (23, .one .top (.bool true))
  let E16 : Nat × TV := (24, .one .top (.bool true))
  let E17 : Nat × TV := (25, .one .top (.loc 3 0))
  let E19 : Nat × TV := (27, .one .top .junk)
  let B20 : Nat × List MC := (3, [(.top, .junk), (.top, .junk), (.top, .junk)])
  let S21 : St := ⟨[], [], H⟩
  refine w_fun Try.func43 rfl (by kernel_rfl) false (by kernel_rfl) (s0 := S21) (by kernel_rfl) ?_
  unfold law17_awake at hF
  refine w_seq ?_
  refine w_reg S21 (by kernel_rfl) ?_
  refine w_seq ?_
  obtain ⟨H3, r1, c2, hF⟩ := bind2_inv hF
  let E1 : Ptr → Nat × TV := fun z0 => (1, .one .top (Ptr.av z0))
  let E2 : Ptr → Nat × TV := fun z0 => (6, .one .top (Ptr.av z0))
  let E4 : Ptr → Nat × TV := fun z0 => (8, .one .top (Ptr.av z0))
  let E5 : Ptr → Nat × TV := fun z0 => (10, .one .top (Ptr.av z0))
  let E6 : Ptr → Nat × TV := fun z0 => (12, .one .top (Ptr.av z0))
  let E8 : Ptr → Nat × TV := fun z0 => (15, .one .top (Ptr.av z0))
  let E12 : Ptr → Nat × TV := fun z0 => (18, .one .top (Ptr.av z0))
  let S22 : Ptr → St := fun z0 => ⟨[(E1 z0), (E2 z0)], [], H3⟩
  let S23 : Ptr → St := fun z0 => ⟨[(E1 z0), (E4 z0)], [], H3⟩
  refine w_regO ⟨[(E1 r1)], [], H3⟩ ?_ ?_
  refine o_one ⟨[(5, .one .top (Ptr.av r1))], [], H3⟩ (st_call (d := (some 5)) (fz := false) (pure := false) (own := false) S21 (ok_emit_New H c2) (by generalize r1 = qp0; cases qp0 <;> kernel_rfl) (by generalize r1 = qp0; cases qp0 <;> kernel_rfl)) ?_
  refine o_run 1 ⟨[(E1 r1), (5, .one .top (Ptr.av r1))], [], H3⟩ (by kernel_rfl) (by generalize r1 = qp0; cases qp0 <;> kernel_rfl) ?_
  exact o_end (by kernel_rfl) (by kernel_rfl)
  refine w_seq ?_
  refine w_seq ?_
  refine w_regO ⟨[(E1 r1), (7, .one .top (.bool r1.isNil))], [], H3⟩ ?_ ?_
  refine o_run 1 (S22 r1) (by kernel_rfl) (by generalize r1 = qp0; cases qp0 <;> kernel_rfl) ?_
  refine o_one ⟨[(E1 r1), (E2 r1), (7, .one .top (.bool r1.isNil))], [], H3⟩ (st_bin (S22 r1) (nil_eql (P := X.P) (ty := 85) (x := (.tmp 6)) (y := (.const (.pointer none))) (m := .top) (m' := .top) r1 (by generalize r1 = qp0; cases qp0 <;> kernel_rfl) (by generalize r1 = qp0; cases qp0 <;> kernel_rfl)) rfl (some 7) (by generalize r1 = qp0; cases qp0 <;> kernel_rfl) (by generalize r1 = qp0; cases qp0 <;> kernel_rfl)) ?_
  exact o_end (by kernel_rfl) (by kernel_rfl)
  rcases if_inv hF with ⟨h4, hF⟩ | ⟨h4, hF⟩
  refine w_cT (m := .top) h4 (s1 := (⟨[], [], H3⟩ : St)) (by kernel_rfl) (by kernel_rfl) ?_
  refine w_seq ?_
  refine w_reg ⟨[(0, .one .top (.bool false))], [], H3⟩ (by kernel_rfl) ?_
  refine w_ret ?_
  obtain ⟨e0, e1⟩ := some2_inv hF
  subst e0
  subst e1
  exact fin_imp (v := .one .top (.bool false)) (by kernel_rfl) (by kernel_rfl) (by kernel_rfl)
  refine w_cF (m := .top) h4 (s1 := (⟨[(E1 r1)], [], H3⟩ : St)) (by kernel_rfl) (by kernel_rfl) ?_
  refine w_skip ?_
  refine w_seq ?_
  obtain ⟨H7, r5, c6, hF⟩ := bind2_inv hF
  let E3 : Nat × TV := (2, .one .top (.int .i64 r5))
  let E7 : Nat × TV := (13, .one .top (.int .i64 r5))
  let S24 : Ptr → St := fun z0 => ⟨[(E1 z0), E3, (E5 z0)], [], H7⟩
  refine w_regO ⟨[(E1 r1), E3], [], H7⟩ ?_ ?_
  refine o_run 1 (S23 r1) (by kernel_rfl) (by generalize r1 = qp0; cases qp0 <;> kernel_rfl) ?_
  refine o_one ⟨[(E1 r1), (E4 r1), (9, .one .top (.int .i64 r5))], [], H7⟩ (st_call (d := (some 9)) (fz := false) (pure := false) (own := false) (S23 r1) (ok_emit_Code_Jump H3 c6) (by generalize r1 = qp0; cases qp0 <;> kernel_rfl) (by generalize r1 = qp0; cases qp0 <;> kernel_rfl)) ?_
  refine o_run 1 ⟨[(E1 r1), E3, (E4 r1), (9, .one .top (.int .i64 r5))], [], H7⟩ (by kernel_rfl) (by generalize r1 = qp0; cases qp0 <;> kernel_rfl) ?_
  exact o_end (by kernel_rfl) (by kernel_rfl)
  refine w_seq ?_
  obtain ⟨H10, r8, c9, hF⟩ := bind2_inv hF
  let S25 : Ptr → St := fun z0 => ⟨[(E1 z0), E3, (E6 z0), E7], [], H10⟩
  refine w_regO ⟨[(E1 r1), E3], [], H10⟩ ?_ ?_
  refine o_run 1 (S24 r1) (by kernel_rfl) (by generalize r1 = qp0; cases qp0 <;> kernel_rfl) ?_
  refine o_one ⟨[(E1 r1), E3, (E5 r1), (11, .one .top (.int .i64 r8))], [], H10⟩ (st_call (d := (some 11)) (fz := false) (pure := false) (own := false) (S24 r1) (ok_emit_Code_Reg H7 c9) (by generalize r1 = qp0; cases qp0 <;> kernel_rfl) (by generalize r1 = qp0; cases qp0 <;> kernel_rfl)) ?_
  exact o_end (by kernel_rfl) (by kernel_rfl)
  refine w_seq ?_
  obtain ⟨H12, c11, hF⟩ := bind1_inv hF
  let S26 : Ptr → St := fun z0 => ⟨[(E1 z0), (E8 z0)], [], H12⟩
  refine w_regO ⟨[(E1 r1)], [], H12⟩ ?_ ?_
  refine o_run 2 (S25 r1) (by kernel_rfl) (by generalize r1 = qp0; cases qp0 <;> kernel_rfl) ?_
  refine o_one ⟨[(E1 r1), E3, (E6 r1), E7, (14, .tup [])], [], H12⟩ (st_call (d := (some 14)) (fz := false) (pure := false) (own := false) (S25 r1) (ok_emit_Code_Land H10 c11) (by generalize r1 = qp0; cases qp0 <;> kernel_rfl) (by generalize r1 = qp0; cases qp0 <;> kernel_rfl)) ?_
  exact o_end (by kernel_rfl) (by kernel_rfl)
  refine w_seq ?_
  obtain ⟨H15, r13, c14, hF⟩ := bind2_inv hF
  let S27 : Ptr → St := fun z0 => ⟨[(E1 z0), (E12 z0)], [], H15⟩
  refine w_regO ⟨[(E1 r1)], [], H15⟩ ?_ ?_
  refine o_run 1 (S26 r1) (by kernel_rfl) (by generalize r1 = qp0; cases qp0 <;> kernel_rfl) ?_
  refine o_one ⟨[(E1 r1), (E8 r1), (16, .one .top (.int .i64 r13))], [], H15⟩ (st_call (d := (some 16)) (fz := false) (pure := false) (own := false) (S26 r1) (ok_emit_Code_Reg H12 c14) (by generalize r1 = qp0; cases qp0 <;> kernel_rfl) (by generalize r1 = qp0; cases qp0 <;> kernel_rfl)) ?_
  exact o_end (by kernel_rfl) (by kernel_rfl)
  refine w_seq ?_
  obtain ⟨H19, r16, r17, c18, hF⟩ := bind3_inv hF
  let E10 : Nat × TV := (4, .one .top (.int .i64 r17))
  let B11 : Nat × List MC := (3, (m1_emit_Result r16))
  let E13 : Nat × TV := (19, .tup [.agg (m0_emit_Result r16), .one .top (.int .i64 r17)])
  let E14 : Nat × TV := (22, .one .top (.int .i64 r17))
  let E18 : Nat × TV := (26, .one .bl (.sl 1 (List.map (eI .u32) r16.Words_)))
  refine w_regO ⟨[E9, E10], [B11], H19⟩ ?_ ?_
  refine o_run 1 (S27 r1) (by kernel_rfl) (by generalize r1 = qp0; cases qp0 <;> kernel_rfl) ?_
  refine o_one ⟨[(E1 r1), (E12 r1), E13], [], H19⟩ (st_call (d := (some 19)) (fz := false) (pure := false) (own := false) (S27 r1) (ok_emit_Code_Finish H15 c18) (by generalize r1 = qp0; cases qp0 <;> kernel_rfl) (by generalize r1 = qp0; cases qp0 <;> kernel_rfl)) ?_
  refine o_run 6 ⟨[(E1 r1), E9, E10, (17, .tup [.agg (m1_emit_Result r16), .one .top (.int .i64 r17)]), (E12 r1), E13, (20, .agg (m1_emit_Result r16)), (21, .one .top (.int .i64 r17))], [B11], H19⟩ (by kernel_rfl) (by generalize r1 = qp0; cases qp0 <;> kernel_rfl) ?_
  exact o_end (by kernel_rfl) (by kernel_rfl)
  refine w_seq ?_
  obtain ⟨w23, hB24, hF⟩ := bind1_inv hF
  refine w_regO ⟨[(0, .one .top (.bool w23))], [], H19⟩ ?_ ?_
  refine o_run 3 ⟨[E9, E10, E14, (23, .one .top (.bool (r17 == 0))), (24, .one .top (.bool (r17 == 0)))], [B11], H19⟩ (by kernel_rfl) (by kernel_rfl) ?_
  rcases if_inv hB24 with ⟨h20, hB24⟩ | ⟨h20, hB24⟩
  refine o_eq (congrArg (fun q => (⟨[E9, E10, E14, (23, .one .top (.bool q)), (24, .one .top (.bool q))], [B11], H19⟩ : St)) h20) ?_
  refine o_run 3 ⟨[E9, E10, E14, E15, E16, E17, E18, (27, .one (.own 1) (.sl 1 (List.map (eI .u32) ([369098753, 16777216, 16777216] : List Int))))], [B11], H19⟩ (by kernel_rfl) (by kernel_rfl) ?_
  obtain ⟨r21, c22, hB24⟩ := bind1_inv hB24
  refine o_one ⟨[E9, E10, E14, E15, E16, E17, (26, .one .top .junk), E19, (28, .one .top (.bool r21))], [B20], H19⟩ (st_call (d := (some 28)) (fz := false) (pure := true) (own := true) (⟨[E9, E10, E14, E15, E16, E17, E18, E19], [B11], H19⟩ : St) (ok_ref01_Words H19 c22) (by kernel_rfl) (by kernel_rfl)) ?_
  refine o_run 2 ⟨[(0, .one .top (.bool r21)), E9, E10, E14, E15, E16, E17, (26, .one .top .junk), E19, (28, .one .top (.bool r21)), (29, .one .top (.bool r21))], [B20], H19⟩ (by kernel_rfl) (by kernel_rfl) ?_
  cases hB24
  exact o_end (by kernel_rfl) (by kernel_rfl)
  refine o_eq (congrArg (fun q => (⟨[E9, E10, E14, (23, .one .top (.bool q)), (24, .one .top (.bool q))], [B11], H19⟩ : St)) h20) ?_
  refine o_run 6 ⟨[(0, .one .top (.bool false)), E9, E10, E14, (23, .one .top (.bool false)), (24, .one .top (.bool false)), (25, .tup []), (26, .tup []), (27, .tup []), (28, .tup []), (29, .one .top (.bool false))], [B11], H19⟩ (by kernel_rfl) (by kernel_rfl) ?_
  cases hB24
  exact o_end (by kernel_rfl) (by kernel_rfl)
  refine w_ret ?_
  obtain ⟨e0, e1⟩ := some2_inv hF
  subst e0
  subst e1
  exact fin_imp (v := .one .top (.bool w23)) (by kernel_rfl) (by kernel_rfl) (by kernel_rfl)
noncomputable def law17_EmitMany_L1 (p0 : Int) (r5 : Ptr) (a8 : Int) (H9 : Heap) : Option ((Int × Heap) ⊕ ((Int × Heap))) :=
  if (decide (a8 < (Int.tmod (IntKind.wrap .i64 p0) 17000))) = true then (bind2 (emit_Code_Reg H9 r5 1 0) fun H13 r11 =>
  some (Sum.inl ((IntKind.wrap .i64 (a8 + 1)), H13)))
  else (some (Sum.inr ((Int.tmod (IntKind.wrap .i64 p0) 17000), H9)))
noncomputable def law17_EmitMany (H : Heap) (p0 : Int) : Option (Heap × Bool) :=
  bind2 (law17_awake H) fun H3 r1 =>
  if (!r1) = true then (some (H3, false))
  else (bind2 (emit_New H3) fun H7 r5 =>
  bind1 (loopO (fun (x : (Int × Heap)) => law17_EmitMany_L1 p0 r5 x.1 x.2) (0, H7)) (tup2 fun b16 H17 =>
  bind3 (emit_Code_Finish H17 r5) fun H21 r18 r19 =>
  if (decide (b16 > 16384)) = true then (bind1 (if (r19 == 242) = true then (if ((r18.Words_.length : Int) == 0) = true then (bind1 (emit_Code_Here H21 r5) fun r25 =>
  some (r25 == 16384)) else (some false)) else (some false)) fun w27 =>
  some (H21, w27))
  else (some (H21, ((r19 == 0) && ((r18.Words_.length : Int) == b16))))))
theorem ok_law17_EmitMany (H : Heap) {p0 : Int} {ra : Bool} {Hr : Heap} (hF : law17_EmitMany H p0 = some (Hr, ra)) : evS X 10 [.one .top (.int .u16 p0)] H = some (.one .top (.bool ra), Hr) := by
  let E1 : Nat × TV := (0, .one .top (.int .u16 p0))
  let E2 : Nat × TV := (2, .one .top (.bool false))
  let E4 : Nat × TV := (4, .one .top (.int .i64 (Int.tmod (IntKind.wrap .i64 p0) 17000)))
  let E8 : Nat × TV := (6, .one .top (.loc 6 0))
  let E14 : Nat × TV := (29, .one .top (.bool true))
  let E15 : Nat × TV := (30, .one .top (.bool true))
  let E16 : Nat × TV := (31, .one .top (.loc 6 0))
  let E19 : Nat × TV := (34, .one .top (.bool true))
  let E20 : Nat × TV := (35, .one .top (.bool true))
  let E21 : Nat × TV := (36, .one .top (.bool true))
  let E24 : Nat × TV := (42, .one .top (.bool true))
  let E25 : Nat × TV := (43, .one .top (.bool true))
  let E26 : Nat × TV := (44, .one .top (.loc 6 0))
  let S29 : St := ⟨[E1], [], H⟩
  refine w_fun Try.func10 rfl (by kernel_rfl) false (by kernel_rfl) (s0 := S29) (by kernel_rfl) ?_
  unfold law17_EmitMany at hF
  refine w_seq ?_
  refine w_reg S29 (by kernel_rfl) ?_
  refine w_seq ?_
  refine w_seq ?_
  obtain ⟨H3, r1, c2, hF⟩ := bind2_inv hF
  refine w_regO ⟨[E1, (9, .one .top (.bool (!r1)))], [], H3⟩ ?_ ?_
  refine o_one ⟨[E1, (8, .one .top (.bool r1))], [], H3⟩ (st_call (d := (some 8)) (fz := false) (pure := false) (own := false) S29 (ok_law17_awake H c2) (by kernel_rfl) (by kernel_rfl)) ?_
  refine o_run 1 ⟨[E1, (8, .one .top (.bool r1)), (9, .one .top (.bool (!r1)))], [], H3⟩ (by kernel_rfl) (by kernel_rfl) ?_
  exact o_end (by kernel_rfl) (by kernel_rfl)
  rcases if_inv hF with ⟨h4, hF⟩ | ⟨h4, hF⟩
  refine w_cT (m := .top) h4 (s1 := (⟨[], [], H3⟩ : St)) (by kernel_rfl) (by kernel_rfl) ?_
  refine w_seq ?_
  refine w_reg ⟨[E2], [], H3⟩ (by kernel_rfl) ?_
  refine w_ret ?_
  obtain ⟨e0, e1⟩ := some2_inv hF
  subst e0
  subst e1
  exact fin_imp (v := .one .top (.bool false)) (by kernel_rfl) (by kernel_rfl) (by kernel_rfl)
  refine w_cF (m := .top) h4 (s1 := (⟨[E1], [], H3⟩ : St)) (by kernel_rfl) (by kernel_rfl) ?_
  refine w_skip ?_
  refine w_seq ?_
  obtain ⟨H7, r5, c6, hF⟩ := bind2_inv hF
  let E3 : Ptr → Nat × TV := fun z0 => (3, .one .top (Ptr.av z0))
  let E6 : Ptr → Nat × TV := fun z0 => (19, .one .top (Ptr.av z0))
  let E11 : Ptr → Nat × TV := fun z0 => (22, .one .top (Ptr.av z0))
  let E22 : Ptr → Nat × TV := fun z0 => (37, .one .top (Ptr.av z0))
  refine w_regO ⟨[E1, (E3 r5)], [], H7⟩ ?_ ?_
  refine o_one ⟨[E1, (10, .one .top (Ptr.av r5))], [], H7⟩ (st_call (d := (some 10)) (fz := false) (pure := false) (own := false) (⟨[E1], [], H3⟩ : St) (ok_emit_New H3 c6) (by generalize r5 = qp0; cases qp0 <;> kernel_rfl) (by generalize r5 = qp0; cases qp0 <;> kernel_rfl)) ?_
  refine o_run 1 ⟨[E1, (E3 r5), (10, .one .top (Ptr.av r5))], [], H7⟩ (by kernel_rfl) (by generalize r5 = qp0; cases qp0 <;> kernel_rfl) ?_
  exact o_end (by kernel_rfl) (by kernel_rfl)
  refine w_seq ?_
  refine w_reg ⟨[(E3 r5), E4], [], H7⟩ (by generalize r5 = qp0; cases qp0 <;> kernel_rfl) ?_
  refine w_seq ?_
  refine w_seq ?_
  refine w_reg ⟨[(E3 r5), E4, (5, .one .top (.int .i64 0))], [], H7⟩ (by generalize r5 = qp0; cases qp0 <;> kernel_rfl) ?_
  refine w_block ?_
  obtain ⟨r14, hL15, hF⟩ := bind1_inv hF
  refine w_loop (fun (x : (Int × Heap)) => (⟨[(E3 r5), E4, (5, .one .top (.int .i64 x.1))], [], x.2⟩ : St)) (fun (y : (Int × Heap)) => ((.exit 0, (⟨[(E3 r5), (4, .one .top (.int .i64 y.1))], [], y.2⟩ : St)) : Ex × St)) hL15 (by kernel_rfl) ?_ ?_
  rintro ⟨a8, H9⟩ o hF
  replace hF : law17_EmitMany_L1 p0 r5 a8 H9 = some o := hF
  let E5 : Nat × TV := (5, .one .top (.int .i64 a8))
  let S30 : Ptr → St := fun z0 => ⟨[(E3 z0), E4, E5, (E6 z0)], [], H9⟩
  unfold law17_EmitMany_L1 at hF
  refine w_seq ?_
  refine w_seq ?_
  refine w_reg ⟨[(E3 r5), E4, E5, (16, .one .top (.bool (decide (a8 < (Int.tmod (IntKind.wrap .i64 p0) 17000)))))], [], H9⟩ (by generalize r5 = qp0; cases qp0 <;> kernel_rfl) ?_
  rcases if_inv hF with ⟨h10, hF⟩ | ⟨h10, hF⟩
  refine w_cT (m := .top) h10 (s1 := (⟨[(E3 r5), E4, E5], [], H9⟩ : St)) (by kernel_rfl) (by kernel_rfl) ?_
  refine w_skip ?_
  refine w_seq ?_
  refine w_block ?_
  obtain ⟨H13, r11, c12, hF⟩ := bind2_inv hF
  refine w_regO ⟨[(E3 r5), E4, E5], [], H13⟩ ?_ ?_
  refine o_run 1 (S30 r5) (by kernel_rfl) (by generalize r5 = qp0; cases qp0 <;> kernel_rfl) ?_
  refine o_one ⟨[(E3 r5), E4, E5, (E6 r5), (20, .one .top (.int .i64 r11))], [], H13⟩ (st_call (d := (some 20)) (fz := false) (pure := false) (own := false) (S30 r5) (ok_emit_Code_Reg H9 c12) (by generalize r5 = qp0; cases qp0 <;> kernel_rfl) (by generalize r5 = qp0; cases qp0 <;> kernel_rfl)) ?_
  exact o_end (by kernel_rfl) (by kernel_rfl)
  refine w_reg ⟨[(E3 r5), E4, (5, .one .top (.int .i64 (IntKind.wrap .i64 (a8 + 1))))], [], H13⟩ (by generalize r5 = qp0; cases qp0 <;> kernel_rfl) ?_
  cases hF
  exact ⟨_, rfl, (by kernel_rfl)⟩
  refine w_cF (m := .top) h10 (s1 := (⟨[(E3 r5), E4], [], H9⟩ : St)) (by kernel_rfl) (by kernel_rfl) ?_
  refine w_exit ?_
  cases hF
  exact ⟨_, rfl, (by kernel_rfl)⟩
  obtain ⟨b16, H17⟩ := r14
  replace hF := tup2_inv hF
  let E7 : Nat × TV := (4, .one .top (.int .i64 b16))
  let S31 : Ptr → St := fun z0 => ⟨[(E3 z0), E7, (E11 z0)], [], H17⟩
  refine w_oe (i := 0) (s := (⟨[(E3 r5), E7], [], H17⟩ : St)) (by kernel_rfl) ?_
  refine e_here ?_
  refine w_seq ?_
  obtain ⟨H21, r18, r19, c20, hF⟩ := bind3_inv hF
  let E9 : Nat × TV := (7, .one .top (.int .i64 r19))
  let B10 : Nat × List MC := (6, (m1_emit_Result r18))
  let E12 : Nat × TV := (23, .tup [.agg (m0_emit_Result r18), .one .top (.int .i64 r19)])
  let E13 : Nat × TV := (28, .one .top (.int .i64 r19))
  let E17 : Nat × TV := (32, .one .bl (.sl 1 (List.map (eI .u32) r18.Words_)))
  let E18 : Nat × TV := (33, .one .top (.int .i64 (r18.Words_.length : Int)))
  let E23 : Nat × TV := (41, .one .top (.int .i64 r19))
  let E27 : Nat × TV := (45, .one .bl (.sl 1 (List.map (eI .u32) r18.Words_)))
  let E28 : Nat × TV := (46, .one .top (.int .i64 (r18.Words_.length : Int)))
  let S32 : Ptr → St := fun z0 => ⟨[(E3 z0), E8, E9, E13, E14, E15, E16, E17], [B10], H21⟩
  let S33 : Ptr → St := fun z0 => ⟨[(E3 z0), E8, E9, E13, E14, E15, E16, E17, E18, E19, E20, E21, (E22 z0)], [B10], H21⟩
  let S34 : St := ⟨[E7, E8, E9, E23, E24, E25, E26, E27], [B10], H21⟩
  refine w_regO ⟨[(E3 r5), E7, E8, E9], [B10], H21⟩ ?_ ?_
  refine o_run 1 (S31 r5) (by kernel_rfl) (by generalize r5 = qp0; cases qp0 <;> kernel_rfl) ?_
  refine o_one ⟨[(E3 r5), E7, (E11 r5), E12], [], H21⟩ (st_call (d := (some 23)) (fz := false) (pure := false) (own := false) (S31 r5) (ok_emit_Code_Finish H17 c20) (by generalize r5 = qp0; cases qp0 <;> kernel_rfl) (by generalize r5 = qp0; cases qp0 <;> kernel_rfl)) ?_
  refine o_run 6 ⟨[(E3 r5), E7, E8, E9, (21, .tup [.agg (m1_emit_Result r18), .one .top (.int .i64 r19)]), (E11 r5), E12, (24, .agg (m1_emit_Result r18)), (25, .one .top (.int .i64 r19))], [B10], H21⟩ (by kernel_rfl) (by generalize r5 = qp0; cases qp0 <;> kernel_rfl) ?_
  exact o_end (by kernel_rfl) (by kernel_rfl)
  refine w_seq ?_
  refine w_seq ?_
  refine w_reg ⟨[(E3 r5), E7, E8, E9, (27, .one .top (.bool (decide (b16 > 16384))))], [B10], H21⟩ (by generalize r5 = qp0; cases qp0 <;> kernel_rfl) ?_
  rcases if_inv hF with ⟨h22, hF⟩ | ⟨h22, hF⟩
  refine w_cT (m := .top) h22 (s1 := (⟨[(E3 r5), E8, E9], [B10], H21⟩ : St)) (by kernel_rfl) (by kernel_rfl) ?_
  refine w_seq ?_
  obtain ⟨w27, hB28, hF⟩ := bind1_inv hF
  refine w_regO ⟨[(2, .one .top (.bool w27))], [], H21⟩ ?_ ?_
  refine o_run 3 ⟨[(E3 r5), E8, E9, E13, (29, .one .top (.bool (r19 == 242))), (30, .one .top (.bool (r19 == 242)))], [B10], H21⟩ (by kernel_rfl) (by generalize r5 = qp0; cases qp0 <;> kernel_rfl) ?_
  rcases if_inv hB28 with ⟨h23, hB28⟩ | ⟨h23, hB28⟩
  refine o_eq (congrArg (fun q => (⟨[(E3 r5), E8, E9, E13, (29, .one .top (.bool q)), (30, .one .top (.bool q))], [B10], H21⟩ : St)) h23) ?_
  refine o_run 2 (S32 r5) (by kernel_rfl) (by generalize r5 = qp0; cases qp0 <;> kernel_rfl) ?_
  refine o_one ⟨[(E3 r5), E8, E9, E13, E14, E15, E16, E17, E18], [B10], H21⟩ (st_len (S32 r5) r18.Words_ (eI .u32) (some 33) (by generalize r5 = qp0; cases qp0 <;> kernel_rfl) (by generalize r5 = qp0; cases qp0 <;> kernel_rfl)) ?_
  refine o_run 3 ⟨[(E3 r5), E8, E9, E13, E14, E15, E16, E17, E18, (34, .one .top (.bool ((r18.Words_.length : Int) == 0))), (35, .one .top (.bool ((r18.Words_.length : Int) == 0))), (36, .one .top (.bool ((r18.Words_.length : Int) == 0)))], [B10], H21⟩ (by kernel_rfl) (by generalize r5 = qp0; cases qp0 <;> kernel_rfl) ?_
  rcases if_inv hB28 with ⟨h24, hB28⟩ | ⟨h24, hB28⟩
  refine o_eq (congrArg (fun q => (⟨[(E3 r5), E8, E9, E13, E14, E15, E16, E17, E18, (34, .one .top (.bool q)), (35, .one .top (.bool q)), (36, .one .top (.bool q))], [B10], H21⟩ : St)) h24) ?_
  refine o_run 1 (S33 r5) (by kernel_rfl) (by generalize r5 = qp0; cases qp0 <;> kernel_rfl) ?_
  obtain ⟨r25, c26, hB28⟩ := bind1_inv hB28
  refine o_one ⟨[(E3 r5), E8, E9, E13, E14, E15, E16, E17, E18, E19, E20, E21, (E22 r5), (38, .one .top (.int .i64 r25))], [B10], H21⟩ (st_call (d := (some 38)) (fz := false) (pure := true) (own := false) (S33 r5) (ok_emit_Code_Here H21 c26) (by generalize r5 = qp0; cases qp0 <;> kernel_rfl) (by generalize r5 = qp0; cases qp0 <;> kernel_rfl)) ?_
  refine o_run 3 ⟨[(2, .one .top (.bool (r25 == 16384))), (E3 r5), E8, E9, E13, E14, E15, E16, E17, E18, E19, E20, E21, (E22 r5), (38, .one .top (.int .i64 r25)), (39, .one .top (.bool (r25 == 16384))), (40, .one .top (.bool (r25 == 16384)))], [B10], H21⟩ (by kernel_rfl) (by generalize r5 = qp0; cases qp0 <;> kernel_rfl) ?_
  cases hB28
  exact o_end (by kernel_rfl) (by kernel_rfl)
  refine o_eq (congrArg (fun q => (⟨[(E3 r5), E8, E9, E13, E14, E15, E16, E17, E18, (34, .one .top (.bool q)), (35, .one .top (.bool q)), (36, .one .top (.bool q))], [B10], H21⟩ : St)) h24) ?_
  refine o_run 5 ⟨[E2, (E3 r5), E8, E9, E13, E14, E15, E16, E17, E18, (34, .one .top (.bool false)), (35, .one .top (.bool false)), (36, .one .top (.bool false)), (37, .tup []), (38, .tup []), (39, .tup []), (40, .one .top (.bool false))], [B10], H21⟩ (by kernel_rfl) (by generalize r5 = qp0; cases qp0 <;> kernel_rfl) ?_
  cases hB28
  exact o_end (by kernel_rfl) (by kernel_rfl)
  refine o_eq (congrArg (fun q => (⟨[(E3 r5), E8, E9, E13, (29, .one .top (.bool q)), (30, .one .top (.bool q))], [B10], H21⟩ : St)) h23) ?_
  refine o_run 11 ⟨[E2, (E3 r5), E8, E9, E13, (29, .one .top (.bool false)), (30, .one .top (.bool false)), (31, .tup []), (32, .tup []), (33, .tup []), (34, .tup []), (35, .one .top (.bool false)), (36, .one .top (.bool false)), (37, .tup []), (38, .tup []), (39, .tup []), (40, .one .top (.bool false))], [B10], H21⟩ (by kernel_rfl) (by generalize r5 = qp0; cases qp0 <;> kernel_rfl) ?_
  cases hB28
  exact o_end (by kernel_rfl) (by kernel_rfl)
  refine w_ret ?_
  obtain ⟨e0, e1⟩ := some2_inv hF
  subst e0
  subst e1
  exact fin_imp (v := .one .top (.bool w27)) (by kernel_rfl) (by kernel_rfl) (by kernel_rfl)
  refine w_cF (m := .top) h22 (s1 := (⟨[E7, E8, E9], [B10], H21⟩ : St)) (by kernel_rfl) (by kernel_rfl) ?_
  refine w_skip ?_
  refine w_seq ?_
  refine w_regO ⟨[(2, .one .top (.bool ((r19 == 0) && ((r18.Words_.length : Int) == b16))))], [], H21⟩ ?_ ?_
  refine o_run 3 ⟨[E7, E8, E9, E23, (42, .one .top (.bool (r19 == 0))), (43, .one .top (.bool (r19 == 0)))], [B10], H21⟩ (by kernel_rfl) (by kernel_rfl) ?_
  rcases bool_cases (r19 == 0) with h29 | h29
  refine o_eq (congrArg (fun q => (⟨[E7, E8, E9, E23, (42, .one .top (.bool q)), (43, .one .top (.bool q))], [B10], H21⟩ : St)) h29) ?_
  refine o_run 2 S34 (by kernel_rfl) (by kernel_rfl) ?_
  refine o_one ⟨[E7, E8, E9, E23, E24, E25, E26, E27, E28], [B10], H21⟩ (st_len S34 r18.Words_ (eI .u32) (some 46) (by kernel_rfl) (by kernel_rfl)) ?_
  refine o_run 4 ⟨[(2, .one .top (.bool ((r18.Words_.length : Int) == b16))), E7, E8, E9, E23, E24, E25, E26, E27, E28, (47, .one .top (.int .i64 b16)), (48, .one .top (.bool ((r18.Words_.length : Int) == b16))), (49, .one .top (.bool ((r18.Words_.length : Int) == b16)))], [B10], H21⟩ (by kernel_rfl) (by kernel_rfl) ?_
  refine o_eq2 (congrArg (fun q0 => (⟨[(2, .one .top (.bool q0))], [], H21⟩ : St)) (show ((r18.Words_.length : Int) == b16) = ((r19 == 0) && ((r18.Words_.length : Int) == b16)) by simp [h29])) ?_
  exact o_end (by kernel_rfl) (by kernel_rfl)
  refine o_eq (congrArg (fun q => (⟨[E7, E8, E9, E23, (42, .one .top (.bool q)), (43, .one .top (.bool q))], [B10], H21⟩ : St)) h29) ?_
  refine o_run 7 ⟨[E2, E7, E8, E9, E23, (42, .one .top (.bool false)), (43, .one .top (.bool false)), (44, .tup []), (45, .tup []), (46, .tup []), (47, .tup []), (48, .tup []), (49, .one .top (.bool false))], [B10], H21⟩ (by kernel_rfl) (by kernel_rfl) ?_
  refine o_eq2 (congrArg (fun q0 => (⟨[(2, .one .top (.bool q0))], [], H21⟩ : St)) (show false = ((r19 == 0) && ((r18.Words_.length : Int) == b16)) by simp [h29])) ?_
  exact o_end (by kernel_rfl) (by kernel_rfl)
  refine w_ret ?_
  obtain ⟨e0, e1⟩ := some2_inv hF
  subst e0
  subst e1
  exact fin_imp (v := .one .top (.bool ((r19 == 0) && ((r18.Words_.length : Int) == b16)))) (by kernel_rfl) (by kernel_rfl) (by kernel_rfl)
end Go.Proofs.Abs
