/- The law EmitLands: whatever the input, it answers true. No conditions. (Part EmitLandsF1 of its proof.) -/
import Derived.Test.YtdfdjhimecmkfaaEmitLandsF0
set_option linter.unusedVariables false
set_option linter.unusedSimpArgs false
set_option linter.unusedSectionVars false
/- Printed by gen (walk.py). -/
namespace Go.Proofs.Abs
open Go Go.Proofs
set_option linter.unusedVariables false
set_option maxRecDepth 100000
set_option maxHeartbeats 0
noncomputable def emit_Code_Finish_j2 (H16 : Heap) (i8 : Nat) (a15 : Int) (j23 : T_api_Segment) : Option ((Int × Heap) ⊕ ((Heap))) :=
  bind1 (ranges_Builder_Mark H16 (Ptr.at i8 0) j23.Start_ j23.Pad_) fun H25 =>
  some (Sum.inl ((IntKind.wrap .i64 (a15 + 1)), H25))
noncomputable def emit_Code_Finish_L1 (r13 : (List T_api_Segment)) (i1 : Nat) (o2 : Nat) (i8 : Nat) (a15 : Int) (H16 : Heap) : Option ((Int × Heap) ⊕ ((Heap))) :=
  if (decide (a15 < (r13.length : Int))) = true then (bind1 (gi r13 a15) fun x18 =>
  bind1 (get_emit_Code H16 i1 o2) fun x20 =>
  if (decide (x18.Start_ ≥ (x20.words_.length : Int))) = true then (some (Sum.inr H16))
  else (if (x18.Pad_ != (-1)) = true then (bind1 (gi x20.pads_ x18.Pad_) fun x27 =>
  emit_Code_Finish_j2 H16 i8 a15 (T_api_Segment.mk x18.Start_ x27))
  else (emit_Code_Finish_j2 H16 i8 a15 x18)))
  else (some (Sum.inr H16))
noncomputable def emit_Code_Finish (H : Heap) (p0 : Ptr) : Option (Heap × T_emit_Result × Int) :=
  (p0).bnd fun i1 o2 =>
  bind1 (get_emit_Code H i1 o2) fun x4 =>
  if (x4.err_ != 0) = true then (some (H, (T_emit_Result.mk ([] : List Int) ([] : List T_api_Fixup) ([] : List T_api_Segment)), x4.err_))
  else (bnd H.length fun i8 =>
  bnd (new_ranges_Builder H (T_ranges_Builder.mk ([] : List T_api_Segment))) fun H7 =>
  bind1 (get_emit_Code H7 i1 o2) fun x11 =>
  bind1 (ranges_Builder_List H7 (Ptr.at i1 (o2 + 2))) fun r13 =>
  bind1 (loopO (fun (x : (Int × Heap)) => emit_Code_Finish_L1 r13 i1 o2 i8 x.1 x.2) (0, H7)) (fun H31 =>
  bind1 (get_emit_Code H31 i1 o2) fun x32 =>
  bind1 (app 4 ([] : List Int) x32.words_) fun v34 =>
  bind1 (app 32 ([] : List T_api_Fixup) x32.fixups_) fun v36 =>
  bind1 (ranges_Builder_List H31 (Ptr.at i8 0)) fun r38 =>
  some (H31, (T_emit_Result.mk v34 v36 r38), 0)))
theorem ok_emit_Code_Finish (H : Heap) {p0 : Ptr} {ra : T_emit_Result} {rb : Int} {Hr : Heap} (hF : emit_Code_Finish H p0 = some (Hr, ra, rb)) : evS X 46 [.one .top (Ptr.av p0)] H = some (.tup [.agg (m0_emit_Result ra), .one .top (.int .i64 rb)], Hr) := by
  let E1 : Ptr → Nat × TV := fun z0 => (0, .one .top (Ptr.av z0))
  let E2 : Nat × TV := (2, .one .top (.loc 2 0))
  let B3 : Nat × List MC := (2, [((.own 1), .sl 1 (List.map (eI .u32) ([] : List Int))), ((.own 1), .sl 4 (List.map e_api_Fixup ([] : List T_api_Fixup))), ((.own 1), .sl 2 (List.map e_api_Segment ([] : List T_api_Segment)))])
  let E11 : Nat × TV := (12, .agg [((.own 1), .sl 1 (List.map (eI .u32) ([] : List Int))), ((.own 1), .sl 4 (List.map e_api_Fixup ([] : List T_api_Fixup))), ((.own 1), .sl 2 (List.map e_api_Segment ([] : List T_api_Segment)))])
  let E16 : Nat × TV := (12, .agg [(.top, .junk), (.top, .junk), (.top, .junk)])
  let E18 : Nat × TV := (17, .agg [(.top, .junk)])
  let E25 : Nat × TV := (6, .one .top (.loc 6 0))
  let E29 : Nat × TV := (28, .one .top (.loc 6 0))
  let E37 : Nat × TV := (49, .one .top (.loc 6 0))
  let E39 : Nat × TV := (51, .one .top (.loc 6 1))
  let E47 : Nat × TV := (43, .one .top (.loc 6 1))
  let E51 : Nat × TV := (3, .one .top (.int .i64 0))
  let E62 : Nat × TV := (55, .one .top .junk)
  let E63 : Nat × TV := (60, .one .top .junk)
  let E64 : Nat × TV := (61, .one .top .junk)
  let E65 : Nat × TV := (66, .one .top .junk)
  let E66 : Nat × TV := (68, .one .top .junk)
  let E67 : Nat × TV := (69, .agg [(.top, .junk), (.top, .junk), (.top, .junk)])
  let E68 : Nat × TV := (55, .one (.own 1) (.sl 1 (List.map (eI .u32) ([] : List Int))))
  let E70 : Nat × TV := (61, .one (.own 1) (.sl 4 (List.map e_api_Fixup ([] : List T_api_Fixup))))
  refine w_fun Try.func46 rfl (by kernel_rfl) false (by kernel_rfl) (s0 := (⟨[(E1 p0)], [], H⟩ : St)) (by kernel_rfl) ?_
  unfold emit_Code_Finish at hF
  refine w_seq ?_
  refine w_reg ⟨[(E1 p0), E2], [B3], H⟩ (by generalize p0 = qp0; cases qp0 <;> kernel_rfl) ?_
  refine w_seq ?_
  refine w_seq ?_
  obtain ⟨i1, o2, h3, hF⟩ := pbnd_inv hF
  let E4 : Nat × TV := (0, .one .top (.obj i1 o2))
  let E6 : Nat × TV := (7, .one .top (.obj i1 o2))
  let E7 : Nat × TV := (8, .one .top (.obj i1 o2))
  let E8 : Nat × TV := (9, .one .top (.obj i1 (o2 + 7)))
  let E12 : Nat × TV := (13, .one .top (.obj i1 o2))
  let E13 : Nat × TV := (14, .one .top (.obj i1 o2))
  let E14 : Nat × TV := (15, .one .top (.obj i1 (o2 + 7)))
  let E21 : Nat × TV := (19, .one .top (.obj i1 o2))
  let E22 : Nat × TV := (20, .one .top (.obj i1 o2))
  let E23 : Nat × TV := (21, .one .top (.obj i1 (o2 + 2)))
  let E31 : Nat × TV := (30, .one .top (.obj i1 o2))
  let E32 : Nat × TV := (31, .one .top (.obj i1 o2))
  let E33 : Nat × TV := (32, .one .top (.obj i1 o2))
  let E43 : Nat × TV := (39, .one .top (.obj i1 o2))
  let E44 : Nat × TV := (40, .one .top (.obj i1 o2))
  let E45 : Nat × TV := (41, .one .top (.obj i1 (o2 + 3)))
  let E53 : Nat × TV := (56, .one .top (.obj i1 o2))
  let E54 : Nat × TV := (57, .one .top (.obj i1 o2))
  let E55 : Nat × TV := (58, .one .top (.obj i1 o2))
  let E57 : Nat × TV := (62, .one .top (.obj i1 o2))
  let E58 : Nat × TV := (63, .one .top (.obj i1 o2))
  let E59 : Nat × TV := (64, .one .top (.obj i1 (o2 + 1)))
  let S74 : St := ⟨[E4, E2, E6, E7, E8], [B3], H⟩
  let S75 : St := ⟨[E4, E2, E11, E12, E13, E14], [B3], H⟩
  obtain ⟨x4, V5, hF⟩ := bind1_inv hF
  replace V5 := hgetT_inv V5
  let E5 : Nat × TV := (11, .one .top (.bool (x4.err_ != 0)))
  let E9 : Nat × TV := (10, .one .top (.int .i64 x4.err_))
  let E10 : Nat × TV := (3, .one .top (.int .i64 x4.err_))
  let E15 : Nat × TV := (16, .one .top (.int .i64 x4.err_))
  refine w_regO ⟨[E4, E2, E5], [B3], H⟩ ?_ ?_
  refine o_run 1 ⟨[(E1 p0), E2, (7, .one .top (Ptr.av p0))], [B3], H⟩ (by kernel_rfl) (by generalize p0 = qp0; cases qp0 <;> kernel_rfl) ?_
  refine o_eq (congrArg (fun q => (⟨[(0, .one .top (Ptr.av q)), E2, (7, .one .top (Ptr.av q))], [B3], H⟩ : St)) h3) ?_
  refine o_run 1 ⟨[E4, E2, E6, E7], [B3], H⟩ (by kernel_rfl) (by kernel_rfl) ?_
  refine o_run 1 S74 (by kernel_rfl) (by kernel_rfl) ?_
  refine o_one ⟨[E4, E2, E6, E7, E8, E9], [B3], H⟩ (st_ld (X := X) S74 38 V5 7 1 false (.one .top (.int .i64 x4.err_)) (some 10) (by kernel_rfl) (by kernel_rfl) (by kernel_rfl) (by kernel_rfl) (by kernel_rfl) (by kernel_rfl)) ?_
  refine o_run 1 ⟨[E4, E2, E6, E7, E8, E9, E5], [B3], H⟩ (by kernel_rfl) (by kernel_rfl) ?_
  exact o_end (by kernel_rfl) (by kernel_rfl)
  rcases if_inv hF with ⟨h6, hF⟩ | ⟨h6, hF⟩
  refine w_cT (m := .top) h6 (s1 := (⟨[E4, E2], [B3], H⟩ : St)) (by kernel_rfl) (by kernel_rfl) ?_
  refine w_seq ?_
  refine w_regD (.take 0 (.take 1 (.take 2 (.take 3 (.take 4 (.last 5 (.take 6 .done))))))) (by kernel_rfl) (⟨[E2, E10], [B3], H⟩ : St) ?_ ?_
  refine d_take ⟨[E4, E2, E11], [B3], H⟩ (by kernel_rfl) ?_
  refine d_take ⟨[E4, E2, E11, E12], [B3], H⟩ (by kernel_rfl) ?_
  refine d_take ⟨[E4, E2, E11, E12, E13], [B3], H⟩ (by kernel_rfl) ?_
  refine d_take S75 (by kernel_rfl) ?_
  refine d_take ⟨[E4, E2, E11, E12, E13, E14, E15], [B3], H⟩ (st_ld (X := X) S75 38 V5 7 1 false (.one .top (.int .i64 x4.err_)) (some 16) (by kernel_rfl) (by kernel_rfl) (by kernel_rfl) (by kernel_rfl) (by kernel_rfl) (by kernel_rfl)) ?_
  refine d_last ⟨[E4, E2, E16, E12, E13, E14, E15], [B3], H⟩ (by kernel_rfl) ?_
  refine d_take ⟨[E4, E2, E10, E16, E12, E13, E14, E15], [B3], H⟩ (by kernel_rfl) ?_
  exact d_end (by kernel_rfl)
  refine w_ret ?_
  obtain ⟨e0, e1, e2⟩ := some3_inv hF
  subst e0
  subst e1
  subst e2
  exact fin_imp (v := .tup [.agg [((.own 1), .sl 1 (List.map (eI .u32) ([] : List Int))), ((.own 1), .sl 4 (List.map e_api_Fixup ([] : List T_api_Fixup))), ((.own 1), .sl 2 (List.map e_api_Segment ([] : List T_api_Segment)))], .one .top (.int .i64 x4.err_)]) (by kernel_rfl) (by kernel_rfl) (by kernel_rfl)
  refine w_cF (m := .top) h6 (s1 := (⟨[E4, E2], [B3], H⟩ : St)) (by kernel_rfl) (by kernel_rfl) ?_
  refine w_skip ?_
  refine w_seq ?_
  obtain ⟨i8, h10, hF⟩ := bnd_inv hF
  let E17 : Nat × TV := (4, .one .top (.obj i8 0))
  let E36 : Nat × TV := (48, .one .top (.obj i8 0))
  let E61 : Nat × TV := (67, .one .top (.obj i8 0))
  obtain ⟨H7, h9, hF⟩ := bnd_inv hF
  let S76 : St := ⟨[E4, E2, E17, E21, E22, E23], [B3], H7⟩
  refine w_regO ⟨[E4, E2, E17], [B3], H7⟩ ?_ ?_
  refine o_run 1 ⟨[E4, E2, (17, .agg [((.own 1), .sl 2 (List.map e_api_Segment ([] : List T_api_Segment)))])], [B3], H⟩ (by kernel_rfl) (by kernel_rfl) ?_
  refine o_one ⟨[E4, E2, E18, (18, .one .top (.obj H.length 0))], [B3], (H ++ [[((.own 1), .sl 2 (List.map e_api_Segment ([] : List T_api_Segment)))]])⟩ (by kernel_rfl) ?_
  refine o_eq (congr2 (fun q u => (⟨[E4, E2, E18, (18, .one .top (.obj q 0))], [B3], u⟩ : St)) h10 h9) ?_
  refine o_run 1 ⟨[E4, E2, E17, E18, (18, .one .top (.obj i8 0))], [B3], H7⟩ (by kernel_rfl) (by kernel_rfl) ?_
  exact o_end (by kernel_rfl) (by kernel_rfl)
  refine w_seq ?_
  refine w_seq ?_
  obtain ⟨x11, V12, hF⟩ := bind1_inv hF
  replace V12 := hgetT_inv V12
  obtain ⟨r13, c14, hF⟩ := bind1_inv hF
  let E19 : Nat × TV := (22, .one (.own 1) (.sl 2 (List.map e_api_Segment r13)))
  let E20 : Nat × TV := (23, .one .top (.int .i64 (r13.length : Int)))
  let S77 : St := ⟨[E4, E2, E17, E21, E22, E23, E19], [B3], H7⟩
  refine w_regO ⟨[E4, E2, E17, E19, E20, (24, .one .top (.int .i64 0))], [B3], H7⟩ ?_ ?_
  refine o_run 2 ⟨[E4, E2, E17, E21, E22], [B3], H7⟩ (by kernel_rfl) (by kernel_rfl) ?_
  refine o_run 1 S76 (by kernel_rfl) (by kernel_rfl) ?_
  refine o_one S77 (st_call (d := (some 22)) (fz := false) (pure := true) (own := false) S76 (ok_ranges_Builder_List H7 c14) (by kernel_rfl) (by kernel_rfl)) ?_
  refine o_one ⟨[E4, E2, E17, E21, E22, E23, E19, E20], [B3], H7⟩ (st_len S77 r13 e_api_Segment (some 23) (by kernel_rfl) (by kernel_rfl)) ?_
  refine o_run 1 ⟨[E4, E2, E17, E21, E22, E23, E19, E20, (24, .one .top (.int .i64 0))], [B3], H7⟩ (by kernel_rfl) (by kernel_rfl) ?_
  exact o_end (by kernel_rfl) (by kernel_rfl)
  refine w_block ?_
  obtain ⟨r29, hL30, hF⟩ := bind1_inv hF
  refine w_loop (fun (x : (Int × Heap)) => (⟨[E4, E2, E17, E19, E20, (24, .one .top (.int .i64 x.1))], [B3], x.2⟩ : St)) (fun (y : (Heap)) => ((.exit 0, (⟨[E4, E2, E17], [B3], y⟩ : St)) : Ex × St)) hL30 (by kernel_rfl) ?_ ?_
  rintro ⟨a15, H16⟩ o hF
  replace hF : emit_Code_Finish_L1 r13 i1 o2 i8 a15 H16 = some o := hF
  let E24 : Nat × TV := (24, .one .top (.int .i64 a15))
  let S78 : St := ⟨[E4, E2, E17, E19, E20, E24], [B3], H16⟩
  let S82 : St := ⟨[E4, E2, E17], [B3], H16⟩
  unfold emit_Code_Finish_L1 at hF
  refine w_seq ?_
  refine w_reg ⟨[E4, E2, E17, E19, E20, E24, (25, .one .top (.bool (decide (a15 < (r13.length : Int)))))], [B3], H16⟩ (by kernel_rfl) ?_
  refine w_seq ?_
  rcases if_inv hF with ⟨h17, hF⟩ | ⟨h17, hF⟩
  refine w_cT (m := .top) h17 (s1 := S78) (by kernel_rfl) (by kernel_rfl) ?_
  refine w_skip ?_
  refine w_seq ?_
  refine w_block ?_
  refine w_seq ?_
  obtain ⟨x18, h19, hF⟩ := bind1_inv hF
  let B26 : Nat × List MC := (6, [(.top, .int .i64 x18.Start_), (.top, .int .i64 x18.Pad_)])
  let E27 : Nat × TV := (26, .one .top (.rd .bl (.own 0) [.int .i64 x18.Start_, .int .i64 x18.Pad_] 0))
  let E30 : Nat × TV := (29, .one .top (.int .i64 x18.Start_))
  let E48 : Nat × TV := (44, .one .top (.int .i64 x18.Pad_))
  let S79 : St := ⟨[E4, E2, E17, E25, E19, E20, E24], [B3, B26], H16⟩
  let S80 : St := ⟨[E4, E2, E17, E25, E19, E20, E24, E29, E30, E31, E32, E33], [B3, B26], H16⟩
  let S84 : St := ⟨[E4, E2, E17, E25, E19, E20, E24, E43, E44, E45], [B3, B26], H16⟩
  refine w_regO S79 ?_ ?_
  refine o_one ⟨[E4, E2, E17, E19, E20, E24, E27], [B3], H16⟩ (st_ix (X := X) S78 89 149 2 h19 e_api_Segment (.own 1) (some 26) (by kernel_rfl) (by kernel_rfl) (by kernel_rfl) (by kernel_rfl)) ?_
  refine o_run 3 ⟨[E4, E2, E17, E25, E19, E20, E24, E27, (27, .agg [(.top, .int .i64 x18.Start_), (.top, .int .i64 x18.Pad_)])], [B3, B26], H16⟩ (by kernel_rfl) (by kernel_rfl) ?_
  exact o_end (by kernel_rfl) (by kernel_rfl)
  refine w_seq ?_
  refine w_seq ?_
  obtain ⟨x20, V21, hF⟩ := bind1_inv hF
  replace V21 := hgetT_inv V21
  let E28 : Nat × TV := (35, .one .top (.bool (decide (x18.Start_ ≥ (x20.words_.length : Int)))))
  let E34 : Nat × TV := (33, .one .bh (.sl 1 (List.map (eI .u32) x20.words_)))
  let E35 : Nat × TV := (34, .one .top (.int .i64 (x20.words_.length : Int)))
  let E46 : Nat × TV := (42, .one .bh (.sl 1 (List.map (eI .i64) x20.pads_)))
  let S81 : St := ⟨[E4, E2, E17, E25, E19, E20, E24, E29, E30, E31, E32, E33, E34], [B3, B26], H16⟩
  let S85 : St := ⟨[E4, E2, E17, E25, E19, E20, E24, E43, E44, E45, E46, E47, E48], [B3, B26], H16⟩
  refine w_regD (.take 0 (.take 1 (.take 2 (.take 3 (.take 4 (.take 5 (.take 6 (.take 7 .done)))))))) (by kernel_rfl) (⟨[E4, E2, E17, E25, E19, E20, E24, E28], [B3, B26], H16⟩ : St) ?_ ?_
  refine d_take ⟨[E4, E2, E17, E25, E19, E20, E24, E29], [B3, B26], H16⟩ (by kernel_rfl) ?_
  refine d_take ⟨[E4, E2, E17, E25, E19, E20, E24, E29, E30], [B3, B26], H16⟩ (by kernel_rfl) ?_
  refine d_take ⟨[E4, E2, E17, E25, E19, E20, E24, E29, E30, E31], [B3, B26], H16⟩ (by kernel_rfl) ?_
  refine d_take ⟨[E4, E2, E17, E25, E19, E20, E24, E29, E30, E31, E32], [B3, B26], H16⟩ (by kernel_rfl) ?_
  refine d_take S80 (by kernel_rfl) ?_
  refine d_take S81 (st_ld (X := X) S80 30 V21 0 1 false (.one .bh (.sl 1 (List.map (eI .u32) x20.words_))) (some 33) (by kernel_rfl) (by kernel_rfl) (by kernel_rfl) (by kernel_rfl) (by kernel_rfl) (by kernel_rfl)) ?_
  refine d_take ⟨[E4, E2, E17, E25, E19, E20, E24, E29, E30, E31, E32, E33, E34, E35], [B3, B26], H16⟩ (st_len S81 x20.words_ (eI .u32) (some 34) (by kernel_rfl) (by kernel_rfl)) ?_
  refine d_take ⟨[E4, E2, E17, E25, E19, E20, E24, E29, E30, E31, E32, E33, E34, E35, E28], [B3, B26], H16⟩ (by kernel_rfl) ?_
  exact d_end (by kernel_rfl)
  rcases if_inv hF with ⟨h22, hF⟩ | ⟨h22, hF⟩
  refine w_cT (m := .top) h22 (s1 := S82) (by kernel_rfl) (by kernel_rfl) ?_
  refine w_exit ?_
  refine e_out rfl ?_
  cases hF
  exact ⟨_, rfl, (by kernel_rfl)⟩
  refine w_cF (m := .top) h22 (s1 := S79) (by kernel_rfl) (by kernel_rfl) ?_
  refine w_skip ?_
  refine w_seq ?_
  refine w_seq ?_
  refine w_reg ⟨[E4, E2, E17, E25, E19, E20, E24, (38, .one .top (.bool (x18.Pad_ != (-1))))], [B3, B26], H16⟩ (by kernel_rfl) ?_
  refine w_join (α := (T_api_Segment)) (fun x => (⟨[E4, E2, E17, E25, E19, E20, E24], [B3, (6, [(.top, .int .i64 x.Start_), (.top, .int .i64 x.Pad_)])], H16⟩ : St)) (fun x => emit_Code_Finish_j2 H16 i8 a15 x = some o) ?_ ?_
  rintro j23 hF
  replace hF : emit_Code_Finish_j2 H16 i8 a15 j23 = some o := hF
  let E38 : Nat × TV := (50, .one .top (.int .i64 j23.Start_))
  let E40 : Nat × TV := (52, .one .top (.int .i64 j23.Pad_))
  let B41 : Nat × List MC := (6, [(.top, .int .i64 j23.Start_), (.top, .int .i64 j23.Pad_)])
  let S83 : St := ⟨[E4, E2, E17, E25, E19, E20, E24, E36, E37, E38, E39, E40], [B3, B41], H16⟩
  unfold emit_Code_Finish_j2 at hF
  obtain ⟨H25, c24, hF⟩ := bind1_inv hF
  refine w_regO ⟨[E4, E2, E17, E19, E20, E24], [B3], H25⟩ ?_ ?_
  refine o_run 5 S83 (by kernel_rfl) (by kernel_rfl) ?_
  refine o_one ⟨[E4, E2, E17, E25, E19, E20, E24, E36, E37, E38, E39, E40, (53, .tup [])], [B3, B41], H25⟩ (st_call (d := (some 53)) (fz := false) (pure := false) (own := false) S83 (ok_ranges_Builder_Mark H16 c24) (by kernel_rfl) (by kernel_rfl)) ?_
  exact o_end (by kernel_rfl) (by kernel_rfl)
  refine w_reg ⟨[E4, E2, E17, E19, E20, (24, .one .top (.int .i64 (IntKind.wrap .i64 (a15 + 1))))], [B3], H25⟩ (by kernel_rfl) ?_
  cases hF
  exact ⟨_, rfl, (by kernel_rfl)⟩
  rcases if_inv hF with ⟨h26, hF⟩ | ⟨h26, hF⟩
  refine w_cT (m := .top) h26 (s1 := S79) (by kernel_rfl) (by kernel_rfl) ?_
  obtain ⟨x27, h28, hF⟩ := bind1_inv hF
  let B42 : Nat × List MC := (6, [(.top, .int .i64 x18.Start_), (.top, .int .i64 x27)])
  let E49 : Nat × TV := (45, .one .top (.rd .bh .bh [.int .i64 x27] 0))
  let E50 : Nat × TV := (46, .one .top (.int .i64 x27))
  refine w_regD (.take 0 (.take 1 (.take 2 (.take 3 (.take 4 (.last 5 (.take 6 (.take 7 (.take 8 (.last 9 .done)))))))))) (by kernel_rfl) (⟨[E4, E2, E17, E25, E19, E20, E24], [B3, B42], H16⟩ : St) ?_ ?_
  refine d_take ⟨[E4, E2, E17, E25, E19, E20, E24, E43], [B3, B26], H16⟩ (by kernel_rfl) ?_
  refine d_take ⟨[E4, E2, E17, E25, E19, E20, E24, E43, E44], [B3, B26], H16⟩ (by kernel_rfl) ?_
  refine d_take S84 (by kernel_rfl) ?_
  refine d_take ⟨[E4, E2, E17, E25, E19, E20, E24, E43, E44, E45, E46], [B3, B26], H16⟩ (st_ld (X := X) S84 105 V21 3 1 false (.one .bh (.sl 1 (List.map (eI .i64) x20.pads_))) (some 42) (by kernel_rfl) (by kernel_rfl) (by kernel_rfl) (by kernel_rfl) (by kernel_rfl) (by kernel_rfl)) ?_
  refine d_take ⟨[E4, E2, E17, E25, E19, E20, E24, E43, E44, E45, E46, E47], [B3, B26], H16⟩ (by kernel_rfl) ?_
  refine d_last S85 (by kernel_rfl) ?_
  refine d_take ⟨[E4, E2, E17, E25, E19, E20, E24, E43, E44, E45, E46, E47, E48, E49], [B3, B26], H16⟩ (st_ix (X := X) S85 105 3 1 h28 (eI .i64) .bh (some 45) (by kernel_rfl) (by kernel_rfl) (by kernel_rfl) (by kernel_rfl)) ?_
  refine d_take ⟨[E4, E2, E17, E25, E19, E20, E24, E43, E44, E45, E46, E47, E48, E49, E50], [B3, B26], H16⟩ (by kernel_rfl) ?_
  refine d_take ⟨[E4, E2, E17, E25, E19, E20, E24, E43, E44, E45, E46, E47, E48, E49, E50, (47, .one .top (.loc 6 1))], [B3, B26], H16⟩ (by kernel_rfl) ?_
  refine d_last ⟨[E4, E2, E17, E25, E19, E20, E24, E43, E44, E45, E46, E47, E48, E49, E50, (47, .one .top (.loc 6 1))], [B3, B42], H16⟩ (by kernel_rfl) ?_
  exact d_end (by kernel_rfl)
  exact ⟨(T_api_Segment.mk x18.Start_ x27), hF, (by kernel_rfl)⟩
  refine w_cF (m := .top) h26 (s1 := S79) (by kernel_rfl) (by kernel_rfl) ?_
  refine w_skip ?_
  exact ⟨x18, hF, (by kernel_rfl)⟩
  refine w_cF (m := .top) h17 (s1 := S82) (by kernel_rfl) (by kernel_rfl) ?_
  refine w_exit ?_
  cases hF
  exact ⟨_, rfl, (by kernel_rfl)⟩
  obtain ⟨H31, hy⟩ : ∃ y, y = r29 := ⟨_, rfl⟩
  subst hy
  let S86 : St := ⟨[E4, E2, E17, E53, E54, E55], [B3], H31⟩
  refine w_oe (i := 0) (s := (⟨[E4, E2, E17], [B3], H31⟩ : St)) (by kernel_rfl) ?_
  refine e_here ?_
  refine w_seq ?_
  obtain ⟨x32, V33, hF⟩ := bind1_inv hF
  replace V33 := hgetT_inv V33
  let E56 : Nat × TV := (59, .one .bh (.sl 1 (List.map (eI .u32) x32.words_)))
  let E60 : Nat × TV := (65, .one .bh (.sl 4 (List.map e_api_Fixup x32.fixups_)))
  let S87 : St := ⟨[E4, E2, E17, E53, E54, E55, E56, E57, E58, E59], [B3], H31⟩
  let S95 : St := ⟨[E4, E2, E17, E68, E53, E54, E55, E56, E70, E57, E58, E59, E60, E61], [B3], H31⟩
  let S96 : St := ⟨[E4, E2, E17, E62, E53, E54, E55, E56, E70, E57, E58, E59, E60, E61], [B3], H31⟩
  obtain ⟨v34, h35, hF⟩ := bind1_inv hF
  let E69 : Nat × TV := (60, .one (.own 1) (.sl 1 (List.map (eI .u32) v34)))
  let S89 : St := ⟨[E4, E2, E17, E62, E53, E54, E55, E56, E69, E70, E57, E58, E59, E60, E61], [B3], H31⟩
  let S91 : St := ⟨[E4, E2, E17, E62, E53, E54, E55, E56, E69, E64, E57, E58, E59, E60, E61], [B3], H31⟩
  obtain ⟨v36, h37, hF⟩ := bind1_inv hF
  let E71 : Nat × TV := (66, .one (.own 1) (.sl 4 (List.map e_api_Fixup v36)))
  let S90 : St := ⟨[E4, E2, E17, E62, E53, E54, E55, E56, E69, E64, E57, E58, E59, E60, E71, E61], [B3], H31⟩
  obtain ⟨r38, c39, hF⟩ := bind1_inv hF
  let B52 : Nat × List MC := (2, [((.own 1), .sl 1 (List.map (eI .u32) v34)), ((.own 1), .sl 4 (List.map e_api_Fixup v36)), ((.own 1), .sl 2 (List.map e_api_Segment r38))])
  let E72 : Nat × TV := (68, .one (.own 1) (.sl 2 (List.map e_api_Segment r38)))
  let E73 : Nat × TV := (69, .agg [((.own 1), .sl 1 (List.map (eI .u32) v34)), ((.own 1), .sl 4 (List.map e_api_Fixup v36)), ((.own 1), .sl 2 (List.map e_api_Segment r38))])
  let S88 : St := ⟨[E4, E2, E51, E17, E62, E53, E54, E55, E56, E63, E64, E57, E58, E59, E60, E65, E61, E66, E67], [B52], H31⟩
  let S92 : St := ⟨[E4, E2, E17, E62, E53, E54, E55, E56, E69, E64, E57, E58, E59, E60, E71, E61, E72], [B3], H31⟩
  let S93 : St := ⟨[E4, E2, E17, E62, E53, E54, E55, E56, E63, E64, E57, E58, E59, E60, E65, E61, E66, E73], [B3], H31⟩
  let S94 : St := ⟨[E4, E2, E17, E62, E53, E54, E55, E56, E63, E64, E57, E58, E59, E60, E65, E61, E66, E67], [B52], H31⟩
  let K97 : Sch := .last 5 (.last 11 (.last 13 (.take 14 (.last 15 (.take 16 .done)))))
  refine w_regD (.take 1 (.take 2 (.take 3 (.take 4 (.take 7 (.take 8 (.take 9 (.take 10 (.take 12 (.alt 0 (.alt 5 (.last 6 (.last 11 (.last 13 (.take 14 (.last 15 (.take 16 .done)))))) (.last 6 K97)) (.last 6 (.last 0 K97)))))))))))) (by kernel_rfl) (⟨[E2, E51], [B52], H31⟩ : St) ?_ ?_
  refine d_take ⟨[E4, E2, E17, E53], [B3], H31⟩ (by kernel_rfl) ?_
  refine d_take ⟨[E4, E2, E17, E53, E54], [B3], H31⟩ (by kernel_rfl) ?_
  refine d_take S86 (by kernel_rfl) ?_
  refine d_take ⟨[E4, E2, E17, E53, E54, E55, E56], [B3], H31⟩ (st_ld (X := X) S86 30 V33 0 1 false (.one .bh (.sl 1 (List.map (eI .u32) x32.words_))) (some 59) (by kernel_rfl) (by kernel_rfl) (by kernel_rfl) (by kernel_rfl) (by kernel_rfl) (by kernel_rfl)) ?_
  refine d_take ⟨[E4, E2, E17, E53, E54, E55, E56, E57], [B3], H31⟩ (by kernel_rfl) ?_
  refine d_take ⟨[E4, E2, E17, E53, E54, E55, E56, E57, E58], [B3], H31⟩ (by kernel_rfl) ?_
  refine d_take S87 (by kernel_rfl) ?_
  refine d_take ⟨[E4, E2, E17, E53, E54, E55, E56, E57, E58, E59, E60], [B3], H31⟩ (st_ld (X := X) S87 88 V33 1 1 false (.one .bh (.sl 4 (List.map e_api_Fixup x32.fixups_))) (some 65) (by kernel_rfl) (by kernel_rfl) (by kernel_rfl) (by kernel_rfl) (by kernel_rfl) (by kernel_rfl)) ?_
  refine d_take ⟨[E4, E2, E17, E53, E54, E55, E56, E57, E58, E59, E60, E61], [B3], H31⟩ (by kernel_rfl) ?_
  refine q_in S88 ?_ ?_
  refine q_alt ⟨[E4, E2, E17, E68, E53, E54, E55, E56, E57, E58, E59, E60, E61], [B3], H31⟩ (by kernel_rfl) ?_ ?_
  refine q_alt ⟨[E4, E2, E17, E62, E53, E54, E55, E56, E69, E57, E58, E59, E60, E61], [B3], H31⟩ (st_app (X := X) (⟨[E4, E2, E17, E62, E53, E54, E55, E56, E57, E58, E59, E60, E61], [B3], H31⟩ : St) 4 h35 30 30 22 1 0 [(.top, .int .u32 0)] .bh (eI .u32) 9 (some 60) (by kernel_rfl) (by kernel_rfl) (by kernel_rfl) (by kernel_rfl) (by kernel_rfl) (by kernel_rfl) (by kernel_rfl) (by kernel_rfl) (depth_flat rfl fun _ => rfl) (fun _ => rfl) (by kernel_rfl)) ?_ ?_
  refine q_last S89 (by kernel_rfl) ?_
  refine q_last S90 (st_app (X := X) S91 32 h37 88 88 113 4 0 [(.top, .int .i64 0), (.top, .int .i64 0), (.top, .int .i64 0), (.top, .int .i64 0)] .bh e_api_Fixup 9 (some 66) (by kernel_rfl) (by kernel_rfl) (by kernel_rfl) (by kernel_rfl) (by kernel_rfl) (by kernel_rfl) (by kernel_rfl) (by kernel_rfl) (depth_flat rfl fun _ => rfl) (fun _ => rfl) (by kernel_rfl)) ?_
  refine q_last S92 (st_call (d := (some 68)) (fz := false) (pure := true) (own := false) S90 (ok_ranges_Builder_List H31 c39) (by kernel_rfl) (by kernel_rfl)) ?_
  refine q_take S93 (by kernel_rfl) ?_
  refine q_last S94 (by kernel_rfl) ?_
  refine q_take S88 (by kernel_rfl) ?_
  exact q_end (by kernel_rfl)
  refine q_last S95 (by kernel_rfl) ?_
  refine q_last S89 (st_app (X := X) S96 4 h35 30 30 22 1 0 [(.top, .int .u32 0)] .bh (eI .u32) 9 (some 60) (by kernel_rfl) (by kernel_rfl) (by kernel_rfl) (by kernel_rfl) (by kernel_rfl) (by kernel_rfl) (by kernel_rfl) (by kernel_rfl) (depth_flat rfl fun _ => rfl) (fun _ => rfl) (by kernel_rfl)) ?_
  refine q_last S90 (st_app (X := X) S91 32 h37 88 88 113 4 0 [(.top, .int .i64 0), (.top, .int .i64 0), (.top, .int .i64 0), (.top, .int .i64 0)] .bh e_api_Fixup 9 (some 66) (by kernel_rfl) (by kernel_rfl) (by kernel_rfl) (by kernel_rfl) (by kernel_rfl) (by kernel_rfl) (by kernel_rfl) (by kernel_rfl) (depth_flat rfl fun _ => rfl) (fun _ => rfl) (by kernel_rfl)) ?_
  refine q_last S92 (st_call (d := (some 68)) (fz := false) (pure := true) (own := false) S90 (ok_ranges_Builder_List H31 c39) (by kernel_rfl) (by kernel_rfl)) ?_
  refine q_take S93 (by kernel_rfl) ?_
  refine q_last S94 (by kernel_rfl) ?_
  refine q_take S88 (by kernel_rfl) ?_
  exact q_end (by kernel_rfl)
  refine q_last ⟨[E4, E2, E17, E53, E54, E55, E56, E70, E57, E58, E59, E60, E61], [B3], H31⟩ (by kernel_rfl) ?_
  refine q_last S95 (by kernel_rfl) ?_
  refine q_last S89 (st_app (X := X) S96 4 h35 30 30 22 1 0 [(.top, .int .u32 0)] .bh (eI .u32) 9 (some 60) (by kernel_rfl) (by kernel_rfl) (by kernel_rfl) (by kernel_rfl) (by kernel_rfl) (by kernel_rfl) (by kernel_rfl) (by kernel_rfl) (depth_flat rfl fun _ => rfl) (fun _ => rfl) (by kernel_rfl)) ?_
  refine q_last S90 (st_app (X := X) S91 32 h37 88 88 113 4 0 [(.top, .int .i64 0), (.top, .int .i64 0), (.top, .int .i64 0), (.top, .int .i64 0)] .bh e_api_Fixup 9 (some 66) (by kernel_rfl) (by kernel_rfl) (by kernel_rfl) (by kernel_rfl) (by kernel_rfl) (by kernel_rfl) (by kernel_rfl) (by kernel_rfl) (depth_flat rfl fun _ => rfl) (fun _ => rfl) (by kernel_rfl)) ?_
  refine q_last S92 (st_call (d := (some 68)) (fz := false) (pure := true) (own := false) S90 (ok_ranges_Builder_List H31 c39) (by kernel_rfl) (by kernel_rfl)) ?_
  refine q_take S93 (by kernel_rfl) ?_
  refine q_last S94 (by kernel_rfl) ?_
  refine q_take S88 (by kernel_rfl) ?_
  exact q_end (by kernel_rfl)
  kernel_rfl
  refine w_ret ?_
  obtain ⟨e0, e1, e2⟩ := some3_inv hF
  subst e0
  subst e1
  subst e2
  exact fin_imp (v := .tup [.agg [((.own 1), .sl 1 (List.map (eI .u32) v34)), ((.own 1), .sl 4 (List.map e_api_Fixup v36)), ((.own 1), .sl 2 (List.map e_api_Segment r38))], .one .top (.int .i64 0)]) (by kernel_rfl) (by kernel_rfl) (by kernel_rfl)
noncomputable def ref01_Words_L1 (p0 : (List Int)) (p1 : (List Int)) (a2 : Int) : Option ((Int) ⊕ (Unit ⊕ Unit)) :=
  if (decide (a2 < (p0.length : Int))) = true then (bind1 (gi p0 a2) fun x4 =>
  bind1 (gi p1 a2) fun x6 =>
  if (x4 != x6) = true then (some (Sum.inr (Sum.inr ())))
  else (some (Sum.inl (IntKind.wrap .i64 (a2 + 1)))))
  else (some (Sum.inr (Sum.inl ())))
noncomputable def ref01_Words  (p0 : (List Int)) (p1 : (List Int)) : Option (Bool) :=
  if ((p0.length : Int) != (p1.length : Int)) = true then (some false)
  else (bind1 (loopO (fun (x : (Int)) => ref01_Words_L1 p0 p1 x) 0) (sum2 (fun (_ : Unit) =>
  some true) (fun (_ : Unit) =>
  some false)))
theorem ok_ref01_Words (H : Heap) {p0 : (List Int)} {p1 : (List Int)} {ra : Bool} (hF : ref01_Words p0 p1 = some ra) : evS X 55 [.one .bl (.sl 1 (List.map (eI .u32) p0)), .one (.own 1) (.sl 1 (List.map (eI .u32) p1))] H = some (.one .top (.bool ra), H) := by
  let E1 : Nat × TV := (0, .one .bl (.sl 1 (List.map (eI .u32) p0)))
  let E2 : Nat × TV := (1, .one (.own 1) (.sl 1 (List.map (eI .u32) p1)))
  let E3 : Nat × TV := (10, .one .top (.bool ((p0.length : Int) != (p1.length : Int))))
  let E4 : Nat × TV := (6, .one .bl (.sl 1 (List.map (eI .u32) p0)))
  let E5 : Nat × TV := (7, .one .top (.int .i64 (p0.length : Int)))
  let E6 : Nat × TV := (8, .one .bl (.sl 1 (List.map (eI .u32) p1)))
  let E7 : Nat × TV := (9, .one .top (.int .i64 (p1.length : Int)))
  let E8 : Nat × TV := (4, .one .top (.bool false))
  let E12 : Nat × TV := (12, .one .bl (.sl 1 (List.map (eI .u32) p0)))
  let E13 : Nat × TV := (13, .one .top (.int .i64 (p0.length : Int)))
  let E15 : Nat × TV := (17, .one .bl (.sl 1 (List.map (eI .u32) p0)))
  let E19 : Nat × TV := (21, .one .bl (.sl 1 (List.map (eI .u32) p1)))
  let S22 : St := ⟨[E1, E2], [], H⟩
  let S23 : St := ⟨[E1, E2, E4, E5, E6], [], H⟩
  let S24 : St := ⟨[], [], H⟩
  let S25 : St := ⟨[E8], [], H⟩
  refine w_fun Try.func55 rfl (by kernel_rfl) true (by kernel_rfl) (s0 := S22) (by kernel_rfl) ?_
  unfold ref01_Words at hF
  refine w_seq ?_
  refine w_reg S22 (by kernel_rfl) ?_
  refine w_seq ?_
  refine w_seq ?_
  refine w_regO ⟨[E1, E2, E3], [], H⟩ ?_ ?_
  refine o_run 1 ⟨[E1, E2, E4], [], H⟩ (by kernel_rfl) (by kernel_rfl) ?_
  refine o_one ⟨[E1, E2, E4, E5], [], H⟩ (st_len (⟨[E1, E2, E4], [], H⟩ : St) p0 (eI .u32) (some 7) (by kernel_rfl) (by kernel_rfl)) ?_
  refine o_run 1 S23 (by kernel_rfl) (by kernel_rfl) ?_
  refine o_one ⟨[E1, E2, E4, E5, E6, E7], [], H⟩ (st_len S23 p1 (eI .u32) (some 9) (by kernel_rfl) (by kernel_rfl)) ?_
  refine o_run 1 ⟨[E1, E2, E4, E5, E6, E7, E3], [], H⟩ (by kernel_rfl) (by kernel_rfl) ?_
  exact o_end (by kernel_rfl) (by kernel_rfl)
  rcases if_inv hF with ⟨h1, hF⟩ | ⟨h1, hF⟩
  refine w_cT (m := .top) h1 (s1 := S24) (by kernel_rfl) (by kernel_rfl) ?_
  refine w_seq ?_
  refine w_reg S25 (by kernel_rfl) ?_
  refine w_ret ?_
  obtain e0 := some1_inv hF
  subst e0
  exact fin_pure (v := .one .top (.bool false)) (by kernel_rfl) (by kernel_rfl) rfl (by kernel_rfl)
  refine w_cF (m := .top) h1 (s1 := S22) (by kernel_rfl) (by kernel_rfl) ?_
  refine w_skip ?_
  refine w_seq ?_
  refine w_seq ?_
  refine w_reg ⟨[E1, E2, (5, .one .top (.int .i64 0))], [], H⟩ (by kernel_rfl) ?_
  refine w_block ?_
  obtain ⟨r9, hL10, hF⟩ := bind1_inv hF
  refine w_loop (fun (x : (Int)) => (⟨[E1, E2, (5, .one .top (.int .i64 x))], [], H⟩ : St)) (Sum.elim (fun (y : Unit) => ((.exit 0, S24) : Ex × St)) (fun (y : Unit) => ((.ret, S25) : Ex × St))) hL10 (by kernel_rfl) ?_ ?_
  rintro a2 o hF
  replace hF : ref01_Words_L1 p0 p1 a2 = some o := hF
  let E9 : Nat × TV := (5, .one .top (.int .i64 a2))
  let E10 : Nat × TV := (14, .one .top (.bool (decide (a2 < (p0.length : Int)))))
  let E11 : Nat × TV := (11, .one .top (.int .i64 a2))
  let E16 : Nat × TV := (18, .one .top (.int .i64 a2))
  let E20 : Nat × TV := (22, .one .top (.int .i64 a2))
  let S26 : St := ⟨[E1, E2, E9, E11, E12], [], H⟩
  let S27 : St := ⟨[E1, E2, E9, E15, E16], [], H⟩
  unfold ref01_Words_L1 at hF
  refine w_seq ?_
  refine w_seq ?_
  refine w_regO ⟨[E1, E2, E9, E10], [], H⟩ ?_ ?_
  refine o_run 2 S26 (by kernel_rfl) (by kernel_rfl) ?_
  refine o_one ⟨[E1, E2, E9, E11, E12, E13], [], H⟩ (st_len S26 p0 (eI .u32) (some 13) (by kernel_rfl) (by kernel_rfl)) ?_
  refine o_run 1 ⟨[E1, E2, E9, E11, E12, E13, E10], [], H⟩ (by kernel_rfl) (by kernel_rfl) ?_
  exact o_end (by kernel_rfl) (by kernel_rfl)
  rcases if_inv hF with ⟨h3, hF⟩ | ⟨h3, hF⟩
  refine w_cT (m := .top) h3 (s1 := (⟨[E1, E2, E9], [], H⟩ : St)) (by kernel_rfl) (by kernel_rfl) ?_
  refine w_skip ?_
  refine w_seq ?_
  refine w_block ?_
  refine w_seq ?_
  obtain ⟨x4, h5, hF⟩ := bind1_inv hF
  let E17 : Nat × TV := (19, .one .top (.rd .bl .bl [.int .u32 x4] 0))
  let E18 : Nat × TV := (20, .one .top (.int .u32 x4))
  let S28 : St := ⟨[E1, E2, E9, E15, E16, E17, E18, E19, E20], [], H⟩
  obtain ⟨x6, h7, hF⟩ := bind1_inv hF
  let E14 : Nat × TV := (25, .one .top (.bool (x4 != x6)))
  let E21 : Nat × TV := (23, .one .top (.rd .bl .bl [.int .u32 x6] 0))
  refine w_regD (.take 0 (.take 1 (.take 2 (.take 3 (.take 4 (.take 5 (.take 6 (.take 7 (.take 8 .done))))))))) (by kernel_rfl) (⟨[E1, E2, E9, E14], [], H⟩ : St) ?_ ?_
  refine d_take ⟨[E1, E2, E9, E15], [], H⟩ (by kernel_rfl) ?_
  refine d_take S27 (by kernel_rfl) ?_
  refine d_take ⟨[E1, E2, E9, E15, E16, E17], [], H⟩ (st_ix (X := X) S27 30 22 1 h5 (eI .u32) .bl (some 19) (by kernel_rfl) (by kernel_rfl) (by kernel_rfl) (by kernel_rfl)) ?_
  refine d_take ⟨[E1, E2, E9, E15, E16, E17, E18], [], H⟩ (by kernel_rfl) ?_
  refine d_take ⟨[E1, E2, E9, E15, E16, E17, E18, E19], [], H⟩ (by kernel_rfl) ?_
  refine d_take S28 (by kernel_rfl) ?_
  refine d_take ⟨[E1, E2, E9, E15, E16, E17, E18, E19, E20, E21], [], H⟩ (st_ix (X := X) S28 30 22 1 h7 (eI .u32) .bl (some 23) (by kernel_rfl) (by kernel_rfl) (by kernel_rfl) (by kernel_rfl)) ?_
  refine d_take ⟨[E1, E2, E9, E15, E16, E17, E18, E19, E20, E21, (24, .one .top (.int .u32 x6))], [], H⟩ (by kernel_rfl) ?_
  refine d_take ⟨[E1, E2, E9, E15, E16, E17, E18, E19, E20, E21, (24, .one .top (.int .u32 x6)), E14], [], H⟩ (by kernel_rfl) ?_
  exact d_end (by kernel_rfl)
  rcases if_inv hF with ⟨h8, hF⟩ | ⟨h8, hF⟩
  refine w_cT (m := .top) h8 (s1 := S24) (by kernel_rfl) (by kernel_rfl) ?_
  refine w_seq ?_
  refine w_reg S25 (by kernel_rfl) ?_
  refine w_ret ?_
  cases hF
  exact ⟨_, rfl, (by kernel_rfl)⟩
  refine w_cF (m := .top) h8 (s1 := (⟨[E1, E2, E9], [], H⟩ : St)) (by kernel_rfl) (by kernel_rfl) ?_
  refine w_skip ?_
  refine w_reg ⟨[E1, E2, (5, .one .top (.int .i64 (IntKind.wrap .i64 (a2 + 1))))], [], H⟩ (by kernel_rfl) ?_
  cases hF
  exact ⟨_, rfl, (by kernel_rfl)⟩
  refine w_cF (m := .top) h3 (s1 := S24) (by kernel_rfl) (by kernel_rfl) ?_
  refine w_exit ?_
  cases hF
  exact ⟨_, rfl, (by kernel_rfl)⟩
  rcases sum2_inv hF with ⟨r9', rfl, hF⟩ | ⟨r9', rfl, hF⟩
  refine w_oe (i := 0) (s := S24) (by kernel_rfl) ?_
  refine e_here ?_
  refine w_seq ?_
  refine w_reg ⟨[(4, .one .top (.bool true))], [], H⟩ (by kernel_rfl) ?_
  refine w_ret ?_
  obtain e0 := some1_inv hF
  subst e0
  exact fin_pure (v := .one .top (.bool true)) (by kernel_rfl) (by kernel_rfl) rfl (by kernel_rfl)
  refine w_or (s := S25) (by kernel_rfl) ?_
  obtain e0 := some1_inv hF
  subst e0
  exact fin_pure (v := .one .top (.bool false)) (by kernel_rfl) (by kernel_rfl) rfl (by kernel_rfl)
noncomputable def law17_awake (H : Heap) : Option (Heap × Bool) :=
  bind2 (emit_New H) fun H3 r1 =>
  if r1.isNil = true then (some (H3, false))
  else (bind2 (emit_Code_Jump H3 r1 22 0) fun H7 r5 =>
  bind2 (emit_Code_Reg H7 r1 1 0) fun H10 r8 =>
  bind1 (emit_Code_Land H10 r1 r5) fun H12 =>
  bind2 (emit_Code_Reg H12 r1 1 0) fun H15 r13 =>
  bind3 (emit_Code_Finish H15 r1) fun H19 r16 r17 =>
  bind1 (if (r17 == 0) = true then (bind1 (ref01_Words r16.Words_ ([369098753, 16777216, 16777216] : List Int)) fun r21 =>
  some r21) else (some false)) fun w23 =>
  some (H19, w23))
theorem ok_law17_awake (H : Heap) {ra : Bool} {Hr : Heap} (hF : law17_awake H = some (Hr, ra)) : evS X 43 [] H = some (.one .top (.bool ra), Hr) := by
  let E9 : Nat × TV := (3, .one .top (.loc 3 0))
  let E15 : Nat × TV := (23, .one .top (.bool true))
  let E16 : Nat × TV := (24, .one .top (.bool true))
  let E17 : Nat × TV := (25, .one .top (.loc 3 0))
  let E19 : Nat × TV := (27, .one .top .junk)
  let B20 : Nat × List MC := (3, [(.top, .junk), (.top, .junk), (.top, .junk)])
  let S21 : St := ⟨[], [], H⟩
  refine w_fun Try.func43 rfl (by kernel_rfl) false (by kernel_rfl) (s0 := S21) (by kernel_rfl) ?_
  unfold law17_awake at hF
  refine w_seq ?_
  refine w_reg S21 (by kernel_rfl) ?_
  refine w_seq ?_
  obtain ⟨H3, r1, c2, hF⟩ := bind2_inv hF
  let E1 : Ptr → Nat × TV := fun z0 => (1, .one .top (Ptr.av z0))
  let E2 : Ptr → Nat × TV := fun z0 => (6, .one .top (Ptr.av z0))
  let E4 : Ptr → Nat × TV := fun z0 => (8, .one .top (Ptr.av z0))
  let E5 : Ptr → Nat × TV := fun z0 => (10, .one .top (Ptr.av z0))
  let E6 : Ptr → Nat × TV := fun z0 => (12, .one .top (Ptr.av z0))
  let E8 : Ptr → Nat × TV := fun z0 => (15, .one .top (Ptr.av z0))
  let E12 : Ptr → Nat × TV := fun z0 => (18, .one .top (Ptr.av z0))
  let S22 : Ptr → St := fun z0 => ⟨[(E1 z0), (E2 z0)], [], H3⟩
  let S23 : Ptr → St := fun z0 => ⟨[(E1 z0), (E4 z0)], [], H3⟩
  refine w_regO ⟨[(E1 r1)], [], H3⟩ ?_ ?_
  refine o_one ⟨[(5, .one .top (Ptr.av r1))], [], H3⟩ (st_call (d := (some 5)) (fz := false) (pure := false) (own := false) S21 (ok_emit_New H c2) (by generalize r1 = qp0; cases qp0 <;> kernel_rfl) (by generalize r1 = qp0; cases qp0 <;> kernel_rfl)) ?_
  refine o_run 1 ⟨[(E1 r1), (5, .one .top (Ptr.av r1))], [], H3⟩ (by kernel_rfl) (by generalize r1 = qp0; cases qp0 <;> kernel_rfl) ?_
  exact o_end (by kernel_rfl) (by kernel_rfl)
  refine w_seq ?_
  refine w_seq ?_
  refine w_regO ⟨[(E1 r1), (7, .one .top (.bool r1.isNil))], [], H3⟩ ?_ ?_
  refine o_run 1 (S22 r1) (by kernel_rfl) (by generalize r1 = qp0; cases qp0 <;> kernel_rfl) ?_
  refine o_one ⟨[(E1 r1), (E2 r1), (7, .one .top (.bool r1.isNil))], [], H3⟩ (st_bin (S22 r1) (nil_eql (P := X.P) (ty := 85) (x := (.tmp 6)) (y := (.const (.pointer none))) (m := .top) (m' := .top) r1 (by generalize r1 = qp0; cases qp0 <;> kernel_rfl) (by generalize r1 = qp0; cases qp0 <;> kernel_rfl)) rfl (some 7) (by generalize r1 = qp0; cases qp0 <;> kernel_rfl) (by generalize r1 = qp0; cases qp0 <;> kernel_rfl)) ?_
  exact o_end (by kernel_rfl) (by kernel_rfl)
  rcases if_inv hF with ⟨h4, hF⟩ | ⟨h4, hF⟩
  refine w_cT (m := .top) h4 (s1 := (⟨[], [], H3⟩ : St)) (by kernel_rfl) (by kernel_rfl) ?_
  refine w_seq ?_
  refine w_reg ⟨[(0, .one .top (.bool false))], [], H3⟩ (by kernel_rfl) ?_
  refine w_ret ?_
  obtain ⟨e0, e1⟩ := some2_inv hF
  subst e0
  subst e1
  exact fin_imp (v := .one .top (.bool false)) (by kernel_rfl) (by kernel_rfl) (by kernel_rfl)
  refine w_cF (m := .top) h4 (s1 := (⟨[(E1 r1)], [], H3⟩ : St)) (by kernel_rfl) (by kernel_rfl) ?_
  refine w_skip ?_
  refine w_seq ?_
  obtain ⟨H7, r5, c6, hF⟩ := bind2_inv hF
  let E3 : Nat × TV := (2, .one .top (.int .i64 r5))
  let E7 : Nat × TV := (13, .one .top (.int .i64 r5))
  let S24 : Ptr → St := fun z0 => ⟨[(E1 z0), E3, (E5 z0)], [], H7⟩
  refine w_regO ⟨[(E1 r1), E3], [], H7⟩ ?_ ?_
  refine o_run 1 (S23 r1) (by kernel_rfl) (by generalize r1 = qp0; cases qp0 <;> kernel_rfl) ?_
  refine o_one ⟨[(E1 r1), (E4 r1), (9, .one .top (.int .i64 r5))], [], H7⟩ (st_call (d := (some 9)) (fz := false) (pure := false) (own := false) (S23 r1) (ok_emit_Code_Jump H3 c6) (by generalize r1 = qp0; cases qp0 <;> kernel_rfl) (by generalize r1 = qp0; cases qp0 <;> kernel_rfl)) ?_
  refine o_run 1 ⟨[(E1 r1), E3, (E4 r1), (9, .one .top (.int .i64 r5))], [], H7⟩ (by kernel_rfl) (by generalize r1 = qp0; cases qp0 <;> kernel_rfl) ?_
  exact o_end (by kernel_rfl) (by kernel_rfl)
  refine w_seq ?_
  obtain ⟨H10, r8, c9, hF⟩ := bind2_inv hF
  let S25 : Ptr → St := fun z0 => ⟨[(E1 z0), E3, (E6 z0), E7], [], H10⟩
  refine w_regO ⟨[(E1 r1), E3], [], H10⟩ ?_ ?_
  refine o_run 1 (S24 r1) (by kernel_rfl) (by generalize r1 = qp0; cases qp0 <;> kernel_rfl) ?_
  refine o_one ⟨[(E1 r1), E3, (E5 r1), (11, .one .top (.int .i64 r8))], [], H10⟩ (st_call (d := (some 11)) (fz := false) (pure := false) (own := false) (S24 r1) (ok_emit_Code_Reg H7 c9) (by generalize r1 = qp0; cases qp0 <;> kernel_rfl) (by generalize r1 = qp0; cases qp0 <;> kernel_rfl)) ?_
  exact o_end (by kernel_rfl) (by kernel_rfl)
  refine w_seq ?_
  obtain ⟨H12, c11, hF⟩ := bind1_inv hF
  let S26 : Ptr → St := fun z0 => ⟨[(E1 z0), (E8 z0)], [], H12⟩
  refine w_regO ⟨[(E1 r1)], [], H12⟩ ?_ ?_
  refine o_run 2 (S25 r1) (by kernel_rfl) (by generalize r1 = qp0; cases qp0 <;> kernel_rfl) ?_
  refine o_one ⟨[(E1 r1), E3, (E6 r1), E7, (14, .tup [])], [], H12⟩ (st_call (d := (some 14)) (fz := false) (pure := false) (own := false) (S25 r1) (ok_emit_Code_Land H10 c11) (by generalize r1 = qp0; cases qp0 <;> kernel_rfl) (by generalize r1 = qp0; cases qp0 <;> kernel_rfl)) ?_
  exact o_end (by kernel_rfl) (by kernel_rfl)
  refine w_seq ?_
  obtain ⟨H15, r13, c14, hF⟩ := bind2_inv hF
  let S27 : Ptr → St := fun z0 => ⟨[(E1 z0), (E12 z0)], [], H15⟩
  refine w_regO ⟨[(E1 r1)], [], H15⟩ ?_ ?_
  refine o_run 1 (S26 r1) (by kernel_rfl) (by generalize r1 = qp0; cases qp0 <;> kernel_rfl) ?_
  refine o_one ⟨[(E1 r1), (E8 r1), (16, .one .top (.int .i64 r13))], [], H15⟩ (st_call (d := (some 16)) (fz := false) (pure := false) (own := false) (S26 r1) (ok_emit_Code_Reg H12 c14) (by generalize r1 = qp0; cases qp0 <;> kernel_rfl) (by generalize r1 = qp0; cases qp0 <;> kernel_rfl)) ?_
  exact o_end (by kernel_rfl) (by kernel_rfl)
  refine w_seq ?_
  obtain ⟨H19, r16, r17, c18, hF⟩ := bind3_inv hF
  let E10 : Nat × TV := (4, .one .top (.int .i64 r17))
  let B11 : Nat × List MC := (3, (m1_emit_Result r16))
  let E13 : Nat × TV := (19, .tup [.agg (m0_emit_Result r16), .one .top (.int .i64 r17)])
  let E14 : Nat × TV := (22, .one .top (.int .i64 r17))
  let E18 : Nat × TV := (26, .one .bl (.sl 1 (List.map (eI .u32) r16.Words_)))
  refine w_regO ⟨[E9, E10], [B11], H19⟩ ?_ ?_
  refine o_run 1 (S27 r1) (by kernel_rfl) (by generalize r1 = qp0; cases qp0 <;> kernel_rfl) ?_
  refine o_one ⟨[(E1 r1), (E12 r1), E13], [], H19⟩ (st_call (d := (some 19)) (fz := false) (pure := false) (own := false) (S27 r1) (ok_emit_Code_Finish H15 c18) (by generalize r1 = qp0; cases qp0 <;> kernel_rfl) (by generalize r1 = qp0; cases qp0 <;> kernel_rfl)) ?_
  refine o_run 6 ⟨[(E1 r1), E9, E10, (17, .tup [.agg (m1_emit_Result r16), .one .top (.int .i64 r17)]), (E12 r1), E13, (20, .agg (m1_emit_Result r16)), (21, .one .top (.int .i64 r17))], [B11], H19⟩ (by kernel_rfl) (by generalize r1 = qp0; cases qp0 <;> kernel_rfl) ?_
  exact o_end (by kernel_rfl) (by kernel_rfl)
  refine w_seq ?_
  obtain ⟨w23, hB24, hF⟩ := bind1_inv hF
  refine w_regO ⟨[(0, .one .top (.bool w23))], [], H19⟩ ?_ ?_
  refine o_run 3 ⟨[E9, E10, E14, (23, .one .top (.bool (r17 == 0))), (24, .one .top (.bool (r17 == 0)))], [B11], H19⟩ (by kernel_rfl) (by kernel_rfl) ?_
  rcases if_inv hB24 with ⟨h20, hB24⟩ | ⟨h20, hB24⟩
  refine o_eq (congrArg (fun q => (⟨[E9, E10, E14, (23, .one .top (.bool q)), (24, .one .top (.bool q))], [B11], H19⟩ : St)) h20) ?_
  refine o_run 3 ⟨[E9, E10, E14, E15, E16, E17, E18, (27, .one (.own 1) (.sl 1 (List.map (eI .u32) ([369098753, 16777216, 16777216] : List Int))))], [B11], H19⟩ (by kernel_rfl) (by kernel_rfl) ?_
  obtain ⟨r21, c22, hB24⟩ := bind1_inv hB24
  refine o_one ⟨[E9, E10, E14, E15, E16, E17, (26, .one .top .junk), E19, (28, .one .top (.bool r21))], [B20], H19⟩ (st_call (d := (some 28)) (fz := false) (pure := true) (own := true) (⟨[E9, E10, E14, E15, E16, E17, E18, E19], [B11], H19⟩ : St) (ok_ref01_Words H19 c22) (by kernel_rfl) (by kernel_rfl)) ?_
  refine o_run 2 ⟨[(0, .one .top (.bool r21)), E9, E10, E14, E15, E16, E17, (26, .one .top .junk), E19, (28, .one .top (.bool r21)), (29, .one .top (.bool r21))], [B20], H19⟩ (by kernel_rfl) (by kernel_rfl) ?_
  cases hB24
  exact o_end (by kernel_rfl) (by kernel_rfl)
  refine o_eq (congrArg (fun q => (⟨[E9, E10, E14, (23, .one .top (.bool q)), (24, .one .top (.bool q))], [B11], H19⟩ : St)) h20) ?_
  refine o_run 6 ⟨[(0, .one .top (.bool false)), E9, E10, E14, (23, .one .top (.bool false)), (24, .one .top (.bool false)), (25, .tup []), (26, .tup []), (27, .tup []), (28, .tup []), (29, .one .top (.bool false))], [B11], H19⟩ (by kernel_rfl) (by kernel_rfl) ?_
  cases hB24
  exact o_end (by kernel_rfl) (by kernel_rfl)
  refine w_ret ?_
  obtain ⟨e0, e1⟩ := some2_inv hF
  subst e0
  subst e1
  exact fin_imp (v := .one .top (.bool w23)) (by kernel_rfl) (by kernel_rfl) (by kernel_rfl)
noncomputable def emit_Code_Number (H : Heap) (p0 : Ptr) (p1 : Int) (p2 : Int) : Option (Heap) :=
  bind1 (word_Fits (IntKind.wrap .i64 p2) 16) fun r1 =>
  if r1 = true then (bind2 (emit_Code_Put H p0 (T_instr_Instr.mk 2 p1 0 0 (IntKind.wrap .i64 p2))) fun H6 r4 =>
  some H6)
  else (bind2 (emit_Code_Put H p0 (T_instr_Instr.mk 3 p1 0 0 (IntKind.wrap .i64 (Int.fdiv (IntKind.wrap .u32 p2) (2 ^ 16))))) fun H9 r7 =>
  bind2 (emit_Code_Put H9 p0 (T_instr_Instr.mk 4 p1 p1 0 (IntKind.wrap .i64 (bitsOf .and .u32 (IntKind.wrap .u32 p2) 65535)))) fun H12 r10 =>
  some H12)
theorem ok_emit_Code_Number (H : Heap) {p0 : Ptr} {p1 : Int} {p2 : Int} {Hr : Heap} (hF : emit_Code_Number H p0 p1 p2 = some Hr) : evS X 49 [.one .top (Ptr.av p0), .one .top (.int .i64 p1), .one .top (.int .i32 p2)] H = some (.tup [], Hr) := by
  let E1 : Ptr → Nat × TV := fun z0 => (0, .one .top (Ptr.av z0))
  let E2 : Nat × TV := (1, .one .top (.int .i64 p1))
  let E3 : Nat × TV := (2, .one .top (.int .i32 p2))
  let E4 : Nat × TV := (6, .one .top (.int .i32 p2))
  let E5 : Nat × TV := (7, .one .top (.int .i64 (IntKind.wrap .i64 p2)))
  let E6 : Ptr → Nat × TV := fun z0 => (9, .one .top (Ptr.av z0))
  let E7 : Nat × TV := (10, .one .top (.int .i64 p1))
  let E8 : Nat × TV := (11, .one .top (.int .i32 p2))
  let E9 : Nat × TV := (12, .one .top (.int .i64 (IntKind.wrap .i64 p2)))
  let E10 : Nat × TV := (13, .agg [(.top, .int .i64 2), (.top, .int .i64 p1), (.top, .int .i64 0), (.top, .int .i64 0), (.top, .int .i64 (IntKind.wrap .i64 p2))])
  let E11 : Ptr → Nat × TV := fun z0 => (15, .one .top (Ptr.av z0))
  let E12 : Nat × TV := (16, .one .top (.int .i64 p1))
  let E13 : Nat × TV := (17, .one .top (.int .i32 p2))
  let E14 : Nat × TV := (18, .one .top (.int .u32 (IntKind.wrap .u32 p2)))
  let E15 : Nat × TV := (19, .one .top (.int .u32 (Int.fdiv (IntKind.wrap .u32 p2) (2 ^ 16))))
  let E16 : Nat × TV := (20, .one .top (.int .i64 (IntKind.wrap .i64 (Int.fdiv (IntKind.wrap .u32 p2) (2 ^ 16)))))
  let E17 : Nat × TV := (21, .agg [(.top, .int .i64 3), (.top, .int .i64 p1), (.top, .int .i64 0), (.top, .int .i64 0), (.top, .int .i64 (IntKind.wrap .i64 (Int.fdiv (IntKind.wrap .u32 p2) (2 ^ 16))))])
  let E18 : Ptr → Nat × TV := fun z0 => (23, .one .top (Ptr.av z0))
  let E19 : Nat × TV := (24, .one .top (.int .i64 p1))
  let E20 : Nat × TV := (25, .one .top (.int .i64 p1))
  let E21 : Nat × TV := (26, .one .top (.int .i32 p2))
  let E22 : Nat × TV := (27, .one .top (.int .u32 (IntKind.wrap .u32 p2)))
  let E23 : Nat × TV := (28, .one .top (.int .u32 (bitsOf .and .u32 (IntKind.wrap .u32 p2) 65535)))
  let E24 : Nat × TV := (29, .one .top (.int .i64 (IntKind.wrap .i64 (bitsOf .and .u32 (IntKind.wrap .u32 p2) 65535))))
  let E25 : Nat × TV := (30, .agg [(.top, .int .i64 4), (.top, .int .i64 p1), (.top, .int .i64 p1), (.top, .int .i64 0), (.top, .int .i64 (IntKind.wrap .i64 (bitsOf .and .u32 (IntKind.wrap .u32 p2) 65535)))])
  let S26 : Ptr → St := fun z0 => ⟨[(E1 z0), E2, E3], [], H⟩
  let S27 : Ptr → St := fun z0 => ⟨[(E1 z0), E2, E3, E4, E5], [], H⟩
  let S28 : Ptr → St := fun z0 => ⟨[(E1 z0), E2, E3, (E6 z0), E7, E8, E9, E10], [], H⟩
  let S29 : Ptr → St := fun z0 => ⟨[(E1 z0), E2, E3, (E11 z0), E12, E13, E14, E15, E16, E17], [], H⟩
  refine w_fun Try.func49 rfl (by kernel_rfl) false (by kernel_rfl) (s0 := (S26 p0)) (by kernel_rfl) ?_
  unfold emit_Code_Number at hF
  refine w_seq ?_
  refine w_seq ?_
  obtain ⟨r1, c2, hF⟩ := bind1_inv hF
  refine w_regO ⟨[(E1 p0), E2, E3, (8, .one .top (.bool r1))], [], H⟩ ?_ ?_
  refine o_run 2 (S27 p0) (by kernel_rfl) (by generalize p0 = qp0; cases qp0 <;> kernel_rfl) ?_
  refine o_one ⟨[(E1 p0), E2, E3, E4, E5, (8, .one .top (.bool r1))], [], H⟩ (st_call (d := (some 8)) (fz := false) (pure := true) (own := false) (S27 p0) (ok_word_Fits H c2) (by generalize p0 = qp0; cases qp0 <;> kernel_rfl) (by generalize p0 = qp0; cases qp0 <;> kernel_rfl)) ?_
  exact o_end (by kernel_rfl) (by kernel_rfl)
  rcases if_inv hF with ⟨h3, hF⟩ | ⟨h3, hF⟩
  refine w_cT (m := .top) h3 (s1 := (S26 p0)) (by kernel_rfl) (by kernel_rfl) ?_
  refine w_seq ?_
  obtain ⟨H6, r4, c5, hF⟩ := bind2_inv hF
  refine w_regO ⟨[], [], H6⟩ ?_ ?_
  refine o_run 5 (S28 p0) (by kernel_rfl) (by generalize p0 = qp0; cases qp0 <;> kernel_rfl) ?_
  refine o_one ⟨[(E1 p0), E2, E3, (E6 p0), E7, E8, E9, E10, (14, .one .top (.int .i64 r4))], [], H6⟩ (st_call (d := (some 14)) (fz := false) (pure := false) (own := false) (S28 p0) (ok_emit_Code_Put H c5) (by generalize p0 = qp0; cases qp0 <;> kernel_rfl) (by generalize p0 = qp0; cases qp0 <;> kernel_rfl)) ?_
  exact o_end (by kernel_rfl) (by kernel_rfl)
  refine w_ret ?_
  obtain e0 := some1_inv hF
  subst e0
  exact fin_imp (v := .tup []) (by kernel_rfl) (by kernel_rfl) (by kernel_rfl)
  refine w_cF (m := .top) h3 (s1 := (S26 p0)) (by kernel_rfl) (by kernel_rfl) ?_
  refine w_skip ?_
  refine w_seq ?_
  obtain ⟨H9, r7, c8, hF⟩ := bind2_inv hF
  let S30 : Ptr → St := fun z0 => ⟨[(E1 z0), E2, E3, (E18 z0), E19, E20, E21, E22, E23, E24, E25], [], H9⟩
  refine w_regO ⟨[(E1 p0), E2, E3], [], H9⟩ ?_ ?_
  refine o_run 7 (S29 p0) (by kernel_rfl) (by generalize p0 = qp0; cases qp0 <;> kernel_rfl) ?_
  refine o_one ⟨[(E1 p0), E2, E3, (E11 p0), E12, E13, E14, E15, E16, E17, (22, .one .top (.int .i64 r7))], [], H9⟩ (st_call (d := (some 22)) (fz := false) (pure := false) (own := false) (S29 p0) (ok_emit_Code_Put H c8) (by generalize p0 = qp0; cases qp0 <;> kernel_rfl) (by generalize p0 = qp0; cases qp0 <;> kernel_rfl)) ?_
  exact o_end (by kernel_rfl) (by kernel_rfl)
  obtain ⟨H12, r10, c11, hF⟩ := bind2_inv hF
  refine w_regO ⟨[], [], H12⟩ ?_ ?_
  refine o_run 8 (S30 p0) (by kernel_rfl) (by generalize p0 = qp0; cases qp0 <;> kernel_rfl) ?_
  refine o_one ⟨[(E1 p0), E2, E3, (E18 p0), E19, E20, E21, E22, E23, E24, E25, (31, .one .top (.int .i64 r10))], [], H12⟩ (st_call (d := (some 31)) (fz := false) (pure := false) (own := false) (S30 p0) (ok_emit_Code_Put H9 c11) (by generalize p0 = qp0; cases qp0 <;> kernel_rfl) (by generalize p0 = qp0; cases qp0 <;> kernel_rfl)) ?_
  exact o_end (by kernel_rfl) (by kernel_rfl)
  obtain e0 := some1_inv hF
  subst e0
  exact fin_imp (v := .tup []) (by kernel_rfl) (by kernel_rfl) (by kernel_rfl)
noncomputable def emit_Code_Back (H : Heap) (p0 : Ptr) (p1 : Int) (p2 : Int) (p3 : Int) : Option (Heap) :=
  bind2 (emit_Code_Put H p0 (T_instr_Instr.mk p1 p2 0 0 0)) fun H3 r1 =>
  bind1 (emit_Code_set H3 p0 r1 (IntKind.wrap .i64 ((IntKind.wrap .i64 (p3 - r1)) - 1))) fun H5 =>
  some H5
theorem ok_emit_Code_Back (H : Heap) {p0 : Ptr} {p1 : Int} {p2 : Int} {p3 : Int} {Hr : Heap} (hF : emit_Code_Back H p0 p1 p2 p3 = some Hr) : evS X 51 [.one .top (Ptr.av p0), .one .top (.int .i64 p1), .one .top (.int .i64 p2), .one .top (.int .i64 p3)] H = some (.tup [], Hr) := by
  let E1 : Ptr → Nat × TV := fun z0 => (0, .one .top (Ptr.av z0))
  let E2 : Nat × TV := (1, .one .top (.int .i64 p1))
  let E3 : Nat × TV := (2, .one .top (.int .i64 p2))
  let E4 : Nat × TV := (3, .one .top (.int .i64 p3))
  let E6 : Ptr → Nat × TV := fun z0 => (9, .one .top (Ptr.av z0))
  let E7 : Nat × TV := (10, .one .top (.int .i64 p1))
  let E8 : Nat × TV := (11, .one .top (.int .i64 p2))
  let E9 : Nat × TV := (12, .agg [(.top, .int .i64 p1), (.top, .int .i64 p2), (.top, .int .i64 0), (.top, .int .i64 0), (.top, .int .i64 0)])
  let E10 : Ptr → Nat × TV := fun z0 => (14, .one .top (Ptr.av z0))
  let E12 : Nat × TV := (16, .one .top (.int .i64 p3))
  let S16 : Ptr → St := fun z0 => ⟨[(E1 z0), E2, E3, E4, (E6 z0), E7, E8, E9], [], H⟩
  refine w_fun Try.func51 rfl (by kernel_rfl) false (by kernel_rfl) (s0 := (⟨[(E1 p0), E2, E3, E4], [], H⟩ : St)) (by kernel_rfl) ?_
  unfold emit_Code_Back at hF
  refine w_seq ?_
  obtain ⟨H3, r1, c2, hF⟩ := bind2_inv hF
  let E5 : Nat × TV := (8, .one .top (.int .i64 r1))
  let E11 : Nat × TV := (15, .one .top (.int .i64 r1))
  let E13 : Nat × TV := (17, .one .top (.int .i64 r1))
  let E14 : Nat × TV := (18, .one .top (.int .i64 (IntKind.wrap .i64 (p3 - r1))))
  let E15 : Nat × TV := (19, .one .top (.int .i64 (IntKind.wrap .i64 ((IntKind.wrap .i64 (p3 - r1)) - 1))))
  let S17 : Ptr → St := fun z0 => ⟨[(E1 z0), E4, E5, (E10 z0), E11, E12, E13, E14, E15], [], H3⟩
  refine w_regO ⟨[(E1 p0), E4, E5], [], H3⟩ ?_ ?_
  refine o_run 4 (S16 p0) (by kernel_rfl) (by generalize p0 = qp0; cases qp0 <;> kernel_rfl) ?_
  refine o_one ⟨[(E1 p0), E2, E3, E4, (E6 p0), E7, E8, E9, (13, .one .top (.int .i64 r1))], [], H3⟩ (st_call (d := (some 13)) (fz := false) (pure := false) (own := false) (S16 p0) (ok_emit_Code_Put H c2) (by generalize p0 = qp0; cases qp0 <;> kernel_rfl) (by generalize p0 = qp0; cases qp0 <;> kernel_rfl)) ?_
  refine o_run 1 ⟨[(E1 p0), E2, E3, E4, E5, (E6 p0), E7, E8, E9, (13, .one .top (.int .i64 r1))], [], H3⟩ (by kernel_rfl) (by generalize p0 = qp0; cases qp0 <;> kernel_rfl) ?_
  exact o_end (by kernel_rfl) (by kernel_rfl)
  obtain ⟨H5, c4, hF⟩ := bind1_inv hF
  refine w_regO ⟨[], [], H5⟩ ?_ ?_
  refine o_run 6 (S17 p0) (by kernel_rfl) (by generalize p0 = qp0; cases qp0 <;> kernel_rfl) ?_
  refine o_one ⟨[(E1 p0), E4, E5, (E10 p0), E11, E12, E13, E14, E15, (20, .tup [])], [], H5⟩ (st_call (d := (some 20)) (fz := false) (pure := false) (own := false) (S17 p0) (ok_emit_Code_set H3 c4) (by generalize p0 = qp0; cases qp0 <;> kernel_rfl) (by generalize p0 = qp0; cases qp0 <;> kernel_rfl)) ?_
  exact o_end (by kernel_rfl) (by kernel_rfl)
  obtain e0 := some1_inv hF
  subst e0
  exact fin_imp (v := .tup []) (by kernel_rfl) (by kernel_rfl) (by kernel_rfl)
noncomputable def ref02_Shape_j6 (p0 : Int) (j14 : Bool) : Option (Int) :=
  if j14 = true then (some 7)
  else (if (p0 == 28) = true then (some 8)
  else (some (-1)))
noncomputable def ref02_Shape_j5 (p0 : Int) (j12 : Bool) : Option (Int) :=
  if j12 = true then (some 6)
  else (if (p0 == 22) = true then (ref02_Shape_j6 p0 (p0 == 22))
  else (ref02_Shape_j6 p0 (p0 == 23)))
noncomputable def ref02_Shape_j7 (p0 : Int) (j19 : Bool) : Option (Int) :=
  ref02_Shape_j5 p0 j19
noncomputable def ref02_Shape_j8 (p0 : Int) (j21 : Bool) : Option (Int) :=
  ref02_Shape_j7 p0 j21
noncomputable def ref02_Shape_j9 (p0 : Int) (j23 : Bool) : Option (Int) :=
  ref02_Shape_j8 p0 j23
noncomputable def ref02_Shape_j10 (p0 : Int) (j25 : Bool) : Option (Int) :=
  ref02_Shape_j9 p0 j25
noncomputable def ref02_Shape_j4 (p0 : Int) (j10 : Bool) : Option (Int) :=
  if j10 = true then (some 4)
  else (if (p0 == 24) = true then (ref02_Shape_j5 p0 (p0 == 24))
  else (if (p0 == 25) = true then (ref02_Shape_j7 p0 (p0 == 25))
  else (if (p0 == 27) = true then (ref02_Shape_j8 p0 (p0 == 27))
  else (if (p0 == 29) = true then (ref02_Shape_j9 p0 (p0 == 29))
  else (if (p0 == 31) = true then (ref02_Shape_j10 p0 (p0 == 31))
  else (ref02_Shape_j10 p0 (p0 == 32)))))))
noncomputable def ref02_Shape_j11 (p0 : Int) (j28 : Bool) : Option (Int) :=
  ref02_Shape_j4 p0 j28
noncomputable def ref02_Shape_j3 (p0 : Int) (j8 : Bool) : Option (Int) :=
  if j8 = true then (some 3)
  else (if (p0 == 4) = true then (ref02_Shape_j4 p0 (p0 == 4))
  else (if (p0 == 26) = true then (ref02_Shape_j11 p0 (p0 == 26))
  else (ref02_Shape_j11 p0 (p0 == 34))))
noncomputable def ref02_Shape_j12 (p0 : Int) (j31 : Bool) : Option (Int) :=
  ref02_Shape_j3 p0 j31
noncomputable def ref02_Shape_j2 (p0 : Int) (j6 : Bool) : Option (Int) :=
  if j6 = true then (some 2)
  else (if (p0 == 5) = true then (ref02_Shape_j3 p0 (p0 == 5))
  else (if (p0 == 18) = true then (ref02_Shape_j12 p0 (p0 == 18))
  else (ref02_Shape_j12 p0 (p0 == 19))))
noncomputable def ref02_Shape_j13 (p0 : Int) (j34 : Bool) : Option (Int) :=
  ref02_Shape_j2 p0 j34
noncomputable def ref02_Shape_j1 (p0 : Int) (j4 : Bool) : Option (Int) :=
  if j4 = true then (some 1)
  else (if (p0 == 3) = true then (ref02_Shape_j2 p0 (p0 == 3))
  else (if (p0 == 30) = true then (ref02_Shape_j13 p0 (p0 == 30))
  else (ref02_Shape_j13 p0 (p0 == 33))))
noncomputable def ref02_Shape_j14 (p0 : Int) (j37 : Bool) : Option (Int) :=
  ref02_Shape_j1 p0 j37
noncomputable def ref02_Shape  (p0 : Int) : Option (Int) :=
  if ((decide (p0 ≥ 6)) && (decide (p0 ≤ 17))) = true then (some 5)
  else (if (p0 == 1) = true then (some 0)
  else (if (p0 == 2) = true then (ref02_Shape_j1 p0 (p0 == 2))
  else (if (p0 == 20) = true then (ref02_Shape_j14 p0 (p0 == 20))
  else (ref02_Shape_j14 p0 (p0 == 21)))))
theorem ok_ref02_Shape (H : Heap) {p0 : Int} {ra : Int} (hF : ref02_Shape p0 = some ra) : evS X 78 [.one .top (.int .i64 p0)] H = some (.one .top (.int .i64 ra), H) := by
  let E1 : Nat × TV := (0, .one .top (.int .i64 p0))
  let E2 : Nat × TV := (3, .one .top (.int .i64 p0))
  let E3 : Nat × TV := (9, .one .top (.int .i64 p0))
  let E4 : Nat × TV := (12, .one .top (.bool (p0 == 2)))
  let E5 : Nat × TV := (16, .one .top (.bool (p0 == 3)))
  let E6 : Nat × TV := (20, .one .top (.bool (p0 == 5)))
  let E7 : Nat × TV := (24, .one .top (.bool (p0 == 4)))
  let E8 : Nat × TV := (28, .one .top (.bool (p0 == 24)))
  let E9 : Nat × TV := (35, .one .top (.bool (p0 == 22)))
  let E10 : Nat × TV := (28, .one .top (.bool (p0 == 25)))
  let E11 : Nat × TV := (28, .one .top (.bool (p0 == 27)))
  let E12 : Nat × TV := (28, .one .top (.bool (p0 == 29)))
  let E13 : Nat × TV := (28, .one .top (.bool (p0 == 31)))
  let E14 : Nat × TV := (24, .one .top (.bool (p0 == 26)))
  let E15 : Nat × TV := (20, .one .top (.bool (p0 == 18)))
  let E16 : Nat × TV := (16, .one .top (.bool (p0 == 30)))
  let E17 : Nat × TV := (12, .one .top (.bool (p0 == 20)))
  let S18 : St := ⟨[E1], [], H⟩
  let S19 : St := ⟨[], [], H⟩
  let S20 : St := ⟨[E3], [], H⟩
  refine w_fun Try.func78 rfl (by kernel_rfl) true (by kernel_rfl) (s0 := S18) (by kernel_rfl) ?_
  unfold ref02_Shape at hF
  refine w_seq ?_
  refine w_reg S18 (by kernel_rfl) ?_
  refine w_seq ?_
  refine w_seq ?_
  refine w_regO ⟨[E1, (8, .one .top (.bool ((decide (p0 ≥ 6)) && (decide (p0 ≤ 17)))))], [], H⟩ ?_ ?_
  refine o_run 3 ⟨[E1, E2, (4, .one .top (.bool (decide (p0 ≥ 6)))), (5, .one .top (.bool (decide (p0 ≥ 6))))], [], H⟩ (by kernel_rfl) (by kernel_rfl) ?_
  rcases bool_cases (decide (p0 ≥ 6)) with h1 | h1
  refine o_eq (congrArg (fun q => (⟨[E1, E2, (4, .one .top (.bool q)), (5, .one .top (.bool q))], [], H⟩ : St)) h1) ?_
  refine o_run 3 ⟨[E1, E2, (4, .one .top (.bool true)), (5, .one .top (.bool true)), (6, .one .top (.int .i64 p0)), (7, .one .top (.bool (decide (p0 ≤ 17)))), (8, .one .top (.bool (decide (p0 ≤ 17))))], [], H⟩ (by kernel_rfl) (by kernel_rfl) ?_
  refine o_eq2 (congrArg (fun q0 => (⟨[E1, (8, .one .top (.bool q0))], [], H⟩ : St)) (show (decide (p0 ≤ 17)) = ((decide (p0 ≥ 6)) && (decide (p0 ≤ 17))) by simp [h1])) ?_
  exact o_end (by kernel_rfl) (by kernel_rfl)
  refine o_eq (congrArg (fun q => (⟨[E1, E2, (4, .one .top (.bool q)), (5, .one .top (.bool q))], [], H⟩ : St)) h1) ?_
  refine o_run 3 ⟨[E1, E2, (4, .one .top (.bool false)), (5, .one .top (.bool false)), (6, .tup []), (7, .tup []), (8, .one .top (.bool false))], [], H⟩ (by kernel_rfl) (by kernel_rfl) ?_
  refine o_eq2 (congrArg (fun q0 => (⟨[E1, (8, .one .top (.bool q0))], [], H⟩ : St)) (show false = ((decide (p0 ≥ 6)) && (decide (p0 ≤ 17))) by simp [h1])) ?_
  exact o_end (by kernel_rfl) (by kernel_rfl)
  rcases if_inv hF with ⟨h2, hF⟩ | ⟨h2, hF⟩
  refine w_cT (m := .top) h2 (s1 := S19) (by kernel_rfl) (by kernel_rfl) ?_
  refine w_seq ?_
  refine w_reg ⟨[(2, .one .top (.int .i64 5))], [], H⟩ (by kernel_rfl) ?_
  refine w_ret ?_
  obtain e0 := some1_inv hF
  subst e0
  exact fin_pure (v := .one .top (.int .i64 5)) (by kernel_rfl) (by kernel_rfl) rfl (by kernel_rfl)
  refine w_cF (m := .top) h2 (s1 := S18) (by kernel_rfl) (by kernel_rfl) ?_
  refine w_skip ?_
  refine w_seq ?_
  refine w_reg S20 (by kernel_rfl) ?_
  refine w_block ?_
  refine w_seq ?_
  refine w_reg ⟨[E3, (10, .one .top (.bool (p0 == 1)))], [], H⟩ (by kernel_rfl) ?_
  rcases if_inv hF with ⟨h3, hF⟩ | ⟨h3, hF⟩
  refine w_cT (m := .top) h3 (s1 := S19) (by kernel_rfl) (by kernel_rfl) ?_
  refine w_seq ?_
  refine w_reg ⟨[(2, .one .top (.int .i64 0))], [], H⟩ (by kernel_rfl) ?_
  refine w_ret ?_
  obtain e0 := some1_inv hF
  subst e0
  exact fin_pure (v := .one .top (.int .i64 0)) (by kernel_rfl) (by kernel_rfl) rfl (by kernel_rfl)
  refine w_cF (m := .top) h3 (s1 := S20) (by kernel_rfl) (by kernel_rfl) ?_
  refine w_seq ?_
  refine w_seq ?_
  refine w_reg ⟨[E3, E4], [], H⟩ (by kernel_rfl) ?_
  refine w_join (α := (Bool)) (fun x => (⟨[E3, (12, .one .top (.bool x))], [], H⟩ : St)) (fun x => ref02_Shape_j1 p0 x = some ra) ?_ ?_
  rintro j4 hF
  replace hF : ref02_Shape_j1 p0 j4 = some ra := hF
  unfold ref02_Shape_j1 at hF
  rcases if_inv hF with ⟨h5, hF⟩ | ⟨h5, hF⟩
  refine w_cT (m := .top) h5 (s1 := S19) (by kernel_rfl) (by kernel_rfl) ?_
  refine w_seq ?_
  refine w_reg ⟨[(2, .one .top (.int .i64 1))], [], H⟩ (by kernel_rfl) ?_
  refine w_ret ?_
  obtain e0 := some1_inv hF
  subst e0
  exact fin_pure (v := .one .top (.int .i64 1)) (by kernel_rfl) (by kernel_rfl) rfl (by kernel_rfl)
  refine w_cF (m := .top) h5 (s1 := S20) (by kernel_rfl) (by kernel_rfl) ?_
  refine w_seq ?_
  refine w_seq ?_
  refine w_reg ⟨[E3, E5], [], H⟩ (by kernel_rfl) ?_
  refine w_join (α := (Bool)) (fun x => (⟨[E3, (16, .one .top (.bool x))], [], H⟩ : St)) (fun x => ref02_Shape_j2 p0 x = some ra) ?_ ?_
  rintro j6 hF
  replace hF : ref02_Shape_j2 p0 j6 = some ra := hF
  unfold ref02_Shape_j2 at hF
  rcases if_inv hF with ⟨h7, hF⟩ | ⟨h7, hF⟩
  refine w_cT (m := .top) h7 (s1 := S19) (by kernel_rfl) (by kernel_rfl) ?_
  refine w_seq ?_
  refine w_reg ⟨[(2, .one .top (.int .i64 2))], [], H⟩ (by kernel_rfl) ?_
  refine w_ret ?_
  obtain e0 := some1_inv hF
  subst e0
  exact fin_pure (v := .one .top (.int .i64 2)) (by kernel_rfl) (by kernel_rfl) rfl (by kernel_rfl)
  refine w_cF (m := .top) h7 (s1 := S20) (by kernel_rfl) (by kernel_rfl) ?_
  refine w_seq ?_
  refine w_seq ?_
  refine w_reg ⟨[E3, E6], [], H⟩ (by kernel_rfl) ?_
  refine w_join (α := (Bool)) (fun x => (⟨[E3, (20, .one .top (.bool x))], [], H⟩ : St)) (fun x => ref02_Shape_j3 p0 x = some ra) ?_ ?_
  rintro j8 hF
  replace hF : ref02_Shape_j3 p0 j8 = some ra := hF
  unfold ref02_Shape_j3 at hF
  rcases if_inv hF with ⟨h9, hF⟩ | ⟨h9, hF⟩
  refine w_cT (m := .top) h9 (s1 := S19) (by kernel_rfl) (by kernel_rfl) ?_
  refine w_seq ?_
  refine w_reg ⟨[(2, .one .top (.int .i64 3))], [], H⟩ (by kernel_rfl) ?_
  refine w_ret ?_
  obtain e0 := some1_inv hF
  subst e0
  exact fin_pure (v := .one .top (.int .i64 3)) (by kernel_rfl) (by kernel_rfl) rfl (by kernel_rfl)
  refine w_cF (m := .top) h9 (s1 := S20) (by kernel_rfl) (by kernel_rfl) ?_
  refine w_seq ?_
  refine w_seq ?_
  refine w_reg ⟨[E3, E7], [], H⟩ (by kernel_rfl) ?_
  refine w_join (α := (Bool)) (fun x => (⟨[E3, (24, .one .top (.bool x))], [], H⟩ : St)) (fun x => ref02_Shape_j4 p0 x = some ra) ?_ ?_
  rintro j10 hF
  replace hF : ref02_Shape_j4 p0 j10 = some ra := hF
  unfold ref02_Shape_j4 at hF
  rcases if_inv hF with ⟨h11, hF⟩ | ⟨h11, hF⟩
  refine w_cT (m := .top) h11 (s1 := S19) (by kernel_rfl) (by kernel_rfl) ?_
  refine w_seq ?_
  refine w_reg ⟨[(2, .one .top (.int .i64 4))], [], H⟩ (by kernel_rfl) ?_
  refine w_ret ?_
  obtain e0 := some1_inv hF
  subst e0
  exact fin_pure (v := .one .top (.int .i64 4)) (by kernel_rfl) (by kernel_rfl) rfl (by kernel_rfl)
  refine w_cF (m := .top) h11 (s1 := S20) (by kernel_rfl) (by kernel_rfl) ?_
  refine w_seq ?_
  refine w_seq ?_
  refine w_reg ⟨[E3, E8], [], H⟩ (by kernel_rfl) ?_
  refine w_join (α := (Bool)) (fun x => (⟨[E3, (28, .one .top (.bool x))], [], H⟩ : St)) (fun x => ref02_Shape_j5 p0 x = some ra) ?_ ?_
  rintro j12 hF
  replace hF : ref02_Shape_j5 p0 j12 = some ra := hF
  unfold ref02_Shape_j5 at hF
  rcases if_inv hF with ⟨h13, hF⟩ | ⟨h13, hF⟩
  refine w_cT (m := .top) h13 (s1 := S19) (by kernel_rfl) (by kernel_rfl) ?_
  refine w_seq ?_
  refine w_reg ⟨[(2, .one .top (.int .i64 6))], [], H⟩ (by kernel_rfl) ?_
  refine w_ret ?_
  obtain e0 := some1_inv hF
  subst e0
  exact fin_pure (v := .one .top (.int .i64 6)) (by kernel_rfl) (by kernel_rfl) rfl (by kernel_rfl)
  refine w_cF (m := .top) h13 (s1 := S20) (by kernel_rfl) (by kernel_rfl) ?_
  refine w_seq ?_
  refine w_seq ?_
  refine w_reg ⟨[E3, E9], [], H⟩ (by kernel_rfl) ?_
  refine w_join (α := (Bool)) (fun x => (⟨[E3, (35, .one .top (.bool x))], [], H⟩ : St)) (fun x => ref02_Shape_j6 p0 x = some ra) ?_ ?_
  rintro j14 hF
  replace hF : ref02_Shape_j6 p0 j14 = some ra := hF
  unfold ref02_Shape_j6 at hF
  rcases if_inv hF with ⟨h15, hF⟩ | ⟨h15, hF⟩
  refine w_cT (m := .top) h15 (s1 := S19) (by kernel_rfl) (by kernel_rfl) ?_
  refine w_seq ?_
  refine w_reg ⟨[(2, .one .top (.int .i64 7))], [], H⟩ (by kernel_rfl) ?_
  refine w_ret ?_
  obtain e0 := some1_inv hF
  subst e0
  exact fin_pure (v := .one .top (.int .i64 7)) (by kernel_rfl) (by kernel_rfl) rfl (by kernel_rfl)
  refine w_cF (m := .top) h15 (s1 := S20) (by kernel_rfl) (by kernel_rfl) ?_
  refine w_seq ?_
  refine w_reg ⟨[(38, .one .top (.bool (p0 == 28)))], [], H⟩ (by kernel_rfl) ?_
  rcases if_inv hF with ⟨h16, hF⟩ | ⟨h16, hF⟩
  refine w_cT (m := .top) h16 (s1 := S19) (by kernel_rfl) (by kernel_rfl) ?_
  refine w_seq ?_
  refine w_reg ⟨[(2, .one .top (.int .i64 8))], [], H⟩ (by kernel_rfl) ?_
  refine w_ret ?_
  obtain e0 := some1_inv hF
  subst e0
  exact fin_pure (v := .one .top (.int .i64 8)) (by kernel_rfl) (by kernel_rfl) rfl (by kernel_rfl)
  refine w_cF (m := .top) h16 (s1 := S19) (by kernel_rfl) (by kernel_rfl) ?_
  refine w_seq ?_
  refine w_reg ⟨[(2, .one .top (.int .i64 (-1)))], [], H⟩ (by kernel_rfl) ?_
  refine w_ret ?_
  obtain e0 := some1_inv hF
  subst e0
  exact fin_pure (v := .one .top (.int .i64 (-1))) (by kernel_rfl) (by kernel_rfl) rfl (by kernel_rfl)
  rcases if_inv hF with ⟨h17, hF⟩ | ⟨h17, hF⟩
  refine w_cT (m := .top) h17 (s1 := (⟨[E3, E9], [], H⟩ : St)) (by kernel_rfl) (by kernel_rfl) ?_
  refine w_skip ?_
  exact ⟨(p0 == 22), hF, (by kernel_rfl)⟩
  refine w_cF (m := .top) h17 (s1 := S20) (by kernel_rfl) (by kernel_rfl) ?_
  refine w_reg ⟨[E3, (35, .one .top (.bool (p0 == 23)))], [], H⟩ (by kernel_rfl) ?_
  exact ⟨(p0 == 23), hF, (by kernel_rfl)⟩
  rcases if_inv hF with ⟨h18, hF⟩ | ⟨h18, hF⟩
  refine w_cT (m := .top) h18 (s1 := (⟨[E3, E8], [], H⟩ : St)) (by kernel_rfl) (by kernel_rfl) ?_
  refine w_skip ?_
  exact ⟨(p0 == 24), hF, (by kernel_rfl)⟩
  refine w_cF (m := .top) h18 (s1 := S20) (by kernel_rfl) (by kernel_rfl) ?_
  refine w_seq ?_
  refine w_reg ⟨[E3, E10], [], H⟩ (by kernel_rfl) ?_
  refine w_join (α := (Bool)) (fun x => (⟨[E3, (28, .one .top (.bool x))], [], H⟩ : St)) (fun x => ref02_Shape_j7 p0 x = some ra) ?_ ?_
  rintro j19 hF
  replace hF : ref02_Shape_j7 p0 j19 = some ra := hF
  unfold ref02_Shape_j7 at hF
  exact ⟨j19, hF, (by kernel_rfl)⟩
  rcases if_inv hF with ⟨h20, hF⟩ | ⟨h20, hF⟩
  refine w_cT (m := .top) h20 (s1 := (⟨[E3, E10], [], H⟩ : St)) (by kernel_rfl) (by kernel_rfl) ?_
  refine w_skip ?_
  exact ⟨(p0 == 25), hF, (by kernel_rfl)⟩
  refine w_cF (m := .top) h20 (s1 := S20) (by kernel_rfl) (by kernel_rfl) ?_
  refine w_seq ?_
  refine w_reg ⟨[E3, E11], [], H⟩ (by kernel_rfl) ?_
  refine w_join (α := (Bool)) (fun x => (⟨[E3, (28, .one .top (.bool x))], [], H⟩ : St)) (fun x => ref02_Shape_j8 p0 x = some ra) ?_ ?_
  rintro j21 hF
  replace hF : ref02_Shape_j8 p0 j21 = some ra := hF
  unfold ref02_Shape_j8 at hF
  exact ⟨j21, hF, (by kernel_rfl)⟩
  rcases if_inv hF with ⟨h22, hF⟩ | ⟨h22, hF⟩
  refine w_cT (m := .top) h22 (s1 := (⟨[E3, E11], [], H⟩ : St)) (by kernel_rfl) (by kernel_rfl) ?_
  refine w_skip ?_
  exact ⟨(p0 == 27), hF, (by kernel_rfl)⟩
  refine w_cF (m := .top) h22 (s1 := S20) (by kernel_rfl) (by kernel_rfl) ?_
  refine w_seq ?_
  refine w_reg ⟨[E3, E12], [], H⟩ (by kernel_rfl) ?_
  refine w_join (α := (Bool)) (fun x => (⟨[E3, (28, .one .top (.bool x))], [], H⟩ : St)) (fun x => ref02_Shape_j9 p0 x = some ra) ?_ ?_
  rintro j23 hF
  replace hF : ref02_Shape_j9 p0 j23 = some ra := hF
  unfold ref02_Shape_j9 at hF
  exact ⟨j23, hF, (by kernel_rfl)⟩
  rcases if_inv hF with ⟨h24, hF⟩ | ⟨h24, hF⟩
  refine w_cT (m := .top) h24 (s1 := (⟨[E3, E12], [], H⟩ : St)) (by kernel_rfl) (by kernel_rfl) ?_
  refine w_skip ?_
  exact ⟨(p0 == 29), hF, (by kernel_rfl)⟩
  refine w_cF (m := .top) h24 (s1 := S20) (by kernel_rfl) (by kernel_rfl) ?_
  refine w_seq ?_
  refine w_reg ⟨[E3, E13], [], H⟩ (by kernel_rfl) ?_
  refine w_join (α := (Bool)) (fun x => (⟨[E3, (28, .one .top (.bool x))], [], H⟩ : St)) (fun x => ref02_Shape_j10 p0 x = some ra) ?_ ?_
  rintro j25 hF
  replace hF : ref02_Shape_j10 p0 j25 = some ra := hF
  unfold ref02_Shape_j10 at hF
  exact ⟨j25, hF, (by kernel_rfl)⟩
  rcases if_inv hF with ⟨h26, hF⟩ | ⟨h26, hF⟩
  refine w_cT (m := .top) h26 (s1 := (⟨[E3, E13], [], H⟩ : St)) (by kernel_rfl) (by kernel_rfl) ?_
  refine w_skip ?_
  exact ⟨(p0 == 31), hF, (by kernel_rfl)⟩
  refine w_cF (m := .top) h26 (s1 := S20) (by kernel_rfl) (by kernel_rfl) ?_
  refine w_reg ⟨[E3, (28, .one .top (.bool (p0 == 32)))], [], H⟩ (by kernel_rfl) ?_
  exact ⟨(p0 == 32), hF, (by kernel_rfl)⟩
  rcases if_inv hF with ⟨h27, hF⟩ | ⟨h27, hF⟩
  refine w_cT (m := .top) h27 (s1 := (⟨[E3, E7], [], H⟩ : St)) (by kernel_rfl) (by kernel_rfl) ?_
  refine w_skip ?_
  exact ⟨(p0 == 4), hF, (by kernel_rfl)⟩
  refine w_cF (m := .top) h27 (s1 := S20) (by kernel_rfl) (by kernel_rfl) ?_
  refine w_seq ?_
  refine w_reg ⟨[E3, E14], [], H⟩ (by kernel_rfl) ?_
  refine w_join (α := (Bool)) (fun x => (⟨[E3, (24, .one .top (.bool x))], [], H⟩ : St)) (fun x => ref02_Shape_j11 p0 x = some ra) ?_ ?_
  rintro j28 hF
  replace hF : ref02_Shape_j11 p0 j28 = some ra := hF
  unfold ref02_Shape_j11 at hF
  exact ⟨j28, hF, (by kernel_rfl)⟩
  rcases if_inv hF with ⟨h29, hF⟩ | ⟨h29, hF⟩
  refine w_cT (m := .top) h29 (s1 := (⟨[E3, E14], [], H⟩ : St)) (by kernel_rfl) (by kernel_rfl) ?_
  refine w_skip ?_
  exact ⟨(p0 == 26), hF, (by kernel_rfl)⟩
  refine w_cF (m := .top) h29 (s1 := S20) (by kernel_rfl) (by kernel_rfl) ?_
  refine w_reg ⟨[E3, (24, .one .top (.bool (p0 == 34)))], [], H⟩ (by kernel_rfl) ?_
  exact ⟨(p0 == 34), hF, (by kernel_rfl)⟩
  rcases if_inv hF with ⟨h30, hF⟩ | ⟨h30, hF⟩
  refine w_cT (m := .top) h30 (s1 := (⟨[E3, E6], [], H⟩ : St)) (by kernel_rfl) (by kernel_rfl) ?_
  refine w_skip ?_
  exact ⟨(p0 == 5), hF, (by kernel_rfl)⟩
  refine w_cF (m := .top) h30 (s1 := S20) (by kernel_rfl) (by kernel_rfl) ?_
  refine w_seq ?_
  refine w_reg ⟨[E3, E15], [], H⟩ (by kernel_rfl) ?_
  refine w_join (α := (Bool)) (fun x => (⟨[E3, (20, .one .top (.bool x))], [], H⟩ : St)) (fun x => ref02_Shape_j12 p0 x = some ra) ?_ ?_
  rintro j31 hF
  replace hF : ref02_Shape_j12 p0 j31 = some ra := hF
  unfold ref02_Shape_j12 at hF
  exact ⟨j31, hF, (by kernel_rfl)⟩
  rcases if_inv hF with ⟨h32, hF⟩ | ⟨h32, hF⟩
  refine w_cT (m := .top) h32 (s1 := (⟨[E3, E15], [], H⟩ : St)) (by kernel_rfl) (by kernel_rfl) ?_
  refine w_skip ?_
  exact ⟨(p0 == 18), hF, (by kernel_rfl)⟩
  refine w_cF (m := .top) h32 (s1 := S20) (by kernel_rfl) (by kernel_rfl) ?_
  refine w_reg ⟨[E3, (20, .one .top (.bool (p0 == 19)))], [], H⟩ (by kernel_rfl) ?_
  exact ⟨(p0 == 19), hF, (by kernel_rfl)⟩
  rcases if_inv hF with ⟨h33, hF⟩ | ⟨h33, hF⟩
  refine w_cT (m := .top) h33 (s1 := (⟨[E3, E5], [], H⟩ : St)) (by kernel_rfl) (by kernel_rfl) ?_
  refine w_skip ?_
  exact ⟨(p0 == 3), hF, (by kernel_rfl)⟩
  refine w_cF (m := .top) h33 (s1 := S20) (by kernel_rfl) (by kernel_rfl) ?_
  refine w_seq ?_
  refine w_reg ⟨[E3, E16], [], H⟩ (by kernel_rfl) ?_
  refine w_join (α := (Bool)) (fun x => (⟨[E3, (16, .one .top (.bool x))], [], H⟩ : St)) (fun x => ref02_Shape_j13 p0 x = some ra) ?_ ?_
  rintro j34 hF
  replace hF : ref02_Shape_j13 p0 j34 = some ra := hF
  unfold ref02_Shape_j13 at hF
  exact ⟨j34, hF, (by kernel_rfl)⟩
  rcases if_inv hF with ⟨h35, hF⟩ | ⟨h35, hF⟩
  refine w_cT (m := .top) h35 (s1 := (⟨[E3, E16], [], H⟩ : St)) (by kernel_rfl) (by kernel_rfl) ?_
  refine w_skip ?_
  exact ⟨(p0 == 30), hF, (by kernel_rfl)⟩
  refine w_cF (m := .top) h35 (s1 := S20) (by kernel_rfl) (by kernel_rfl) ?_
  refine w_reg ⟨[E3, (16, .one .top (.bool (p0 == 33)))], [], H⟩ (by kernel_rfl) ?_
  exact ⟨(p0 == 33), hF, (by kernel_rfl)⟩
  rcases if_inv hF with ⟨h36, hF⟩ | ⟨h36, hF⟩
  refine w_cT (m := .top) h36 (s1 := (⟨[E3, E4], [], H⟩ : St)) (by kernel_rfl) (by kernel_rfl) ?_
  refine w_skip ?_
  exact ⟨(p0 == 2), hF, (by kernel_rfl)⟩
  refine w_cF (m := .top) h36 (s1 := S20) (by kernel_rfl) (by kernel_rfl) ?_
  refine w_seq ?_
  refine w_reg ⟨[E3, E17], [], H⟩ (by kernel_rfl) ?_
  refine w_join (α := (Bool)) (fun x => (⟨[E3, (12, .one .top (.bool x))], [], H⟩ : St)) (fun x => ref02_Shape_j14 p0 x = some ra) ?_ ?_
  rintro j37 hF
  replace hF : ref02_Shape_j14 p0 j37 = some ra := hF
  unfold ref02_Shape_j14 at hF
  exact ⟨j37, hF, (by kernel_rfl)⟩
  rcases if_inv hF with ⟨h38, hF⟩ | ⟨h38, hF⟩
  refine w_cT (m := .top) h38 (s1 := (⟨[E3, E17], [], H⟩ : St)) (by kernel_rfl) (by kernel_rfl) ?_
  refine w_skip ?_
  exact ⟨(p0 == 20), hF, (by kernel_rfl)⟩
  refine w_cF (m := .top) h38 (s1 := S20) (by kernel_rfl) (by kernel_rfl) ?_
  refine w_reg ⟨[E3, (12, .one .top (.bool (p0 == 21)))], [], H⟩ (by kernel_rfl) ?_
  exact ⟨(p0 == 21), hF, (by kernel_rfl)⟩
noncomputable def ref02_has  (p0 : Int) : Option (Bool × Bool × Bool) :=
  some (((decide (p0 ≥ 1)) && (decide (p0 ≤ 6))), ((decide (p0 ≥ 3)) && (decide (p0 ≤ 5))), (p0 == 5))
theorem ok_ref02_has (H : Heap) {p0 : Int} {ra : Bool} {rb : Bool} {rc : Bool} (hF : ref02_has p0 = some (ra, rb, rc)) : evS X 79 [.one .top (.int .i64 p0)] H = some (.tup [.one .top (.bool ra), .one .top (.bool rb), .one .top (.bool rc)], H) := by
  let E1 : Nat × TV := (0, .one .top (.int .i64 p0))
  let E2 : Nat × TV := (5, .one .top (.bool ((decide (p0 ≥ 1)) && (decide (p0 ≤ 6)))))
  let E3 : Nat × TV := (7, .one .top (.int .i64 p0))
  let E4 : Nat × TV := (13, .one .top (.int .i64 p0))
  refine w_fun Try.func79 rfl (by kernel_rfl) true (by kernel_rfl) (s0 := (⟨[E1], [], H⟩ : St)) (by kernel_rfl) ?_
  unfold ref02_has at hF
  refine w_seq ?_
  refine w_reg ⟨[E1], [], H⟩ (by kernel_rfl) ?_
  refine w_seq ?_
  refine w_regO ⟨[E1, E2], [], H⟩ ?_ ?_
  refine o_run 3 ⟨[E1, E3, (8, .one .top (.bool (decide (p0 ≥ 1)))), (9, .one .top (.bool (decide (p0 ≥ 1))))], [], H⟩ (by kernel_rfl) (by kernel_rfl) ?_
  rcases bool_cases (decide (p0 ≥ 1)) with h1 | h1
  refine o_eq (congrArg (fun q => (⟨[E1, E3, (8, .one .top (.bool q)), (9, .one .top (.bool q))], [], H⟩ : St)) h1) ?_
  refine o_run 4 ⟨[E1, (5, .one .top (.bool (decide (p0 ≤ 6)))), E3, (8, .one .top (.bool true)), (9, .one .top (.bool true)), (10, .one .top (.int .i64 p0)), (11, .one .top (.bool (decide (p0 ≤ 6)))), (12, .one .top (.bool (decide (p0 ≤ 6))))], [], H⟩ (by kernel_rfl) (by kernel_rfl) ?_
  refine o_eq2 (congrArg (fun q0 => (⟨[E1, (5, .one .top (.bool q0))], [], H⟩ : St)) (show (decide (p0 ≤ 6)) = ((decide (p0 ≥ 1)) && (decide (p0 ≤ 6))) by simp [h1])) ?_
  exact o_end (by kernel_rfl) (by kernel_rfl)
  refine o_eq (congrArg (fun q => (⟨[E1, E3, (8, .one .top (.bool q)), (9, .one .top (.bool q))], [], H⟩ : St)) h1) ?_
  refine o_run 4 ⟨[E1, (5, .one .top (.bool false)), E3, (8, .one .top (.bool false)), (9, .one .top (.bool false)), (10, .tup []), (11, .tup []), (12, .one .top (.bool false))], [], H⟩ (by kernel_rfl) (by kernel_rfl) ?_
  refine o_eq2 (congrArg (fun q0 => (⟨[E1, (5, .one .top (.bool q0))], [], H⟩ : St)) (show false = ((decide (p0 ≥ 1)) && (decide (p0 ≤ 6))) by simp [h1])) ?_
  exact o_end (by kernel_rfl) (by kernel_rfl)
  refine w_seq ?_
  refine w_regO ⟨[E1, E2, (6, .one .top (.bool ((decide (p0 ≥ 3)) && (decide (p0 ≤ 5)))))], [], H⟩ ?_ ?_
  refine o_run 3 ⟨[E1, E2, E4, (14, .one .top (.bool (decide (p0 ≥ 3)))), (15, .one .top (.bool (decide (p0 ≥ 3))))], [], H⟩ (by kernel_rfl) (by kernel_rfl) ?_
  rcases bool_cases (decide (p0 ≥ 3)) with h2 | h2
  refine o_eq (congrArg (fun q => (⟨[E1, E2, E4, (14, .one .top (.bool q)), (15, .one .top (.bool q))], [], H⟩ : St)) h2) ?_
  refine o_run 4 ⟨[E1, E2, (6, .one .top (.bool (decide (p0 ≤ 5)))), E4, (14, .one .top (.bool true)), (15, .one .top (.bool true)), (16, .one .top (.int .i64 p0)), (17, .one .top (.bool (decide (p0 ≤ 5)))), (18, .one .top (.bool (decide (p0 ≤ 5))))], [], H⟩ (by kernel_rfl) (by kernel_rfl) ?_
  refine o_eq2 (congrArg (fun q0 => (⟨[E1, E2, (6, .one .top (.bool q0))], [], H⟩ : St)) (show (decide (p0 ≤ 5)) = ((decide (p0 ≥ 3)) && (decide (p0 ≤ 5))) by simp [h2])) ?_
  exact o_end (by kernel_rfl) (by kernel_rfl)
  refine o_eq (congrArg (fun q => (⟨[E1, E2, E4, (14, .one .top (.bool q)), (15, .one .top (.bool q))], [], H⟩ : St)) h2) ?_
  refine o_run 4 ⟨[E1, E2, (6, .one .top (.bool false)), E4, (14, .one .top (.bool false)), (15, .one .top (.bool false)), (16, .tup []), (17, .tup []), (18, .one .top (.bool false))], [], H⟩ (by kernel_rfl) (by kernel_rfl) ?_
  refine o_eq2 (congrArg (fun q0 => (⟨[E1, E2, (6, .one .top (.bool q0))], [], H⟩ : St)) (show false = ((decide (p0 ≥ 3)) && (decide (p0 ≤ 5))) by simp [h2])) ?_
  exact o_end (by kernel_rfl) (by kernel_rfl)
  refine w_seq ?_
  refine w_reg ⟨[(2, .one .top (.bool ((decide (p0 ≥ 1)) && (decide (p0 ≤ 6))))), (3, .one .top (.bool ((decide (p0 ≥ 3)) && (decide (p0 ≤ 5))))), (4, .one .top (.bool (p0 == 5)))], [], H⟩ (by kernel_rfl) ?_
  refine w_ret ?_
  obtain ⟨e0, e1, e2⟩ := some3_inv hF
  subst e0
  subst e1
  subst e2
  exact fin_pure (v := .tup [.one .top (.bool ((decide (p0 ≥ 1)) && (decide (p0 ≤ 6)))), .one .top (.bool ((decide (p0 ≥ 3)) && (decide (p0 ≤ 5)))), .one .top (.bool (p0 == 5))]) (by kernel_rfl) (by kernel_rfl) rfl (by kernel_rfl)
noncomputable def ref01_Power_L1 (p0 : Int) (a1 : Int) (a2 : Int) : Option ((Int × Int) ⊕ ((Int))) :=
  if (decide (a2 < p0)) = true then (some (Sum.inl ((IntKind.wrap .i64 (a1 * 2)), (IntKind.wrap .i64 (a2 + 1)))))
  else (some (Sum.inr a1))
noncomputable def ref01_Power  (p0 : Int) : Option (Int) :=
  bind1 (loopO (fun (x : (Int × Int)) => ref01_Power_L1 p0 x.1 x.2) (1, 0)) (fun b6 =>
  some b6)
theorem ok_ref01_Power (H : Heap) {p0 : Int} {ra : Int} (hF : ref01_Power p0 = some ra) : evS X 106 [.one .top (.int .i64 p0)] H = some (.one .top (.int .i64 ra), H) := by
  let E1 : Nat × TV := (0, .one .top (.int .i64 p0))
  refine w_fun Try.func106 rfl (by kernel_rfl) true (by kernel_rfl) (s0 := (⟨[E1], [], H⟩ : St)) (by kernel_rfl) ?_
  unfold ref01_Power at hF
  refine w_seq ?_
  refine w_reg ⟨[E1], [], H⟩ (by kernel_rfl) ?_
  refine w_seq ?_
  refine w_reg ⟨[E1, (3, .one .top (.int .i64 1))], [], H⟩ (by kernel_rfl) ?_
  refine w_seq ?_
  refine w_seq ?_
  refine w_reg ⟨[E1, (3, .one .top (.int .i64 1)), (4, .one .top (.int .i64 0))], [], H⟩ (by kernel_rfl) ?_
  refine w_block ?_
  obtain ⟨r4, hL5, hF⟩ := bind1_inv hF
  refine w_loop (fun (x : (Int × Int)) => (⟨[E1, (3, .one .top (.int .i64 x.1)), (4, .one .top (.int .i64 x.2))], [], H⟩ : St)) (fun (y : (Int)) => ((.exit 0, (⟨[(3, .one .top (.int .i64 y))], [], H⟩ : St)) : Ex × St)) hL5 (by kernel_rfl) ?_ ?_
  rintro ⟨a1, a2⟩ o hF
  replace hF : ref01_Power_L1 p0 a1 a2 = some o := hF
  let E2 : Nat × TV := (3, .one .top (.int .i64 a1))
  let E3 : Nat × TV := (4, .one .top (.int .i64 a2))
  let E4 : Nat × TV := (3, .one .top (.int .i64 (IntKind.wrap .i64 (a1 * 2))))
  unfold ref01_Power_L1 at hF
  refine w_seq ?_
  refine w_seq ?_
  refine w_reg ⟨[E1, E2, E3, (7, .one .top (.bool (decide (a2 < p0))))], [], H⟩ (by kernel_rfl) ?_
  rcases if_inv hF with ⟨h3, hF⟩ | ⟨h3, hF⟩
  refine w_cT (m := .top) h3 (s1 := (⟨[E1, E2, E3], [], H⟩ : St)) (by kernel_rfl) (by kernel_rfl) ?_
  refine w_skip ?_
  refine w_seq ?_
  refine w_block ?_
  refine w_reg ⟨[E1, E4, E3], [], H⟩ (by kernel_rfl) ?_
  refine w_reg ⟨[E1, E4, (4, .one .top (.int .i64 (IntKind.wrap .i64 (a2 + 1))))], [], H⟩ (by kernel_rfl) ?_
  cases hF
  exact ⟨_, rfl, (by kernel_rfl)⟩
  refine w_cF (m := .top) h3 (s1 := (⟨[E2], [], H⟩ : St)) (by kernel_rfl) (by kernel_rfl) ?_
  refine w_exit ?_
  cases hF
  exact ⟨_, rfl, (by kernel_rfl)⟩
  obtain ⟨b6, hy⟩ : ∃ y, y = r4 := ⟨_, rfl⟩
  subst hy
  refine w_oe (i := 0) (s := (⟨[(3, .one .top (.int .i64 b6))], [], H⟩ : St)) (by kernel_rfl) ?_
  refine e_here ?_
  refine w_seq ?_
  refine w_reg ⟨[(2, .one .top (.int .i64 b6))], [], H⟩ (by kernel_rfl) ?_
  refine w_ret ?_
  obtain e0 := some1_inv hF
  subst e0
  exact fin_pure (v := .one .top (.int .i64 b6)) (by kernel_rfl) (by kernel_rfl) rfl (by kernel_rfl)
noncomputable def ref01_Round_j2 (j2 : Int) : Option (Int) :=
  some (IntKind.wrap .i32 j2)
noncomputable def ref01_Round_j1 (j1 : Int) : Option (Int) :=
  if (decide (j1 ≥ 2147483648)) = true then (ref01_Round_j2 (IntKind.wrap .i64 (j1 - 4294967296)))
  else (ref01_Round_j2 j1)
noncomputable def ref01_Round  (p0 : Int) : Option (Int) :=
  if (decide ((Int.tmod p0 4294967296) < 0)) = true then (ref01_Round_j1 (IntKind.wrap .i64 ((Int.tmod p0 4294967296) + 4294967296)))
  else (ref01_Round_j1 (Int.tmod p0 4294967296))
theorem ok_ref01_Round (H : Heap) {p0 : Int} {ra : Int} (hF : ref01_Round p0 = some ra) : evS X 107 [.one .top (.int .i64 p0)] H = some (.one .top (.int .i32 ra), H) := by
  let E1 : Nat × TV := (3, .one .top (.int .i64 (Int.tmod p0 4294967296)))
  let S3 : St := ⟨[(0, .one .top (.int .i64 p0))], [], H⟩
  let S4 : St := ⟨[E1], [], H⟩
  refine w_fun Try.func107 rfl (by kernel_rfl) true (by kernel_rfl) (s0 := S3) (by kernel_rfl) ?_
  unfold ref01_Round at hF
  refine w_seq ?_
  refine w_reg S3 (by kernel_rfl) ?_
  refine w_seq ?_
  refine w_reg S4 (by kernel_rfl) ?_
  refine w_seq ?_
  refine w_seq ?_
  refine w_reg ⟨[E1, (7, .one .top (.bool (decide ((Int.tmod p0 4294967296) < 0))))], [], H⟩ (by kernel_rfl) ?_
  refine w_join (α := (Int)) (fun x => (⟨[(3, .one .top (.int .i64 x))], [], H⟩ : St)) (fun x => ref01_Round_j1 x = some ra) ?_ ?_
  rintro j1 hF
  replace hF : ref01_Round_j1 j1 = some ra := hF
  let E2 : Nat × TV := (3, .one .top (.int .i64 j1))
  unfold ref01_Round_j1 at hF
  refine w_seq ?_
  refine w_seq ?_
  refine w_reg ⟨[E2, (11, .one .top (.bool (decide (j1 ≥ 2147483648))))], [], H⟩ (by kernel_rfl) ?_
  refine w_join (α := (Int)) (fun x => (⟨[(3, .one .top (.int .i64 x))], [], H⟩ : St)) (fun x => ref01_Round_j2 x = some ra) ?_ ?_
  rintro j2 hF
  replace hF : ref01_Round_j2 j2 = some ra := hF
  unfold ref01_Round_j2 at hF
  refine w_seq ?_
  refine w_reg ⟨[(2, .one .top (.int .i32 (IntKind.wrap .i32 j2)))], [], H⟩ (by kernel_rfl) ?_
  refine w_ret ?_
  obtain e0 := some1_inv hF
  subst e0
  exact fin_pure (v := .one .top (.int .i32 (IntKind.wrap .i32 j2))) (by kernel_rfl) (by kernel_rfl) rfl (by kernel_rfl)
  rcases if_inv hF with ⟨h3, hF⟩ | ⟨h3, hF⟩
  refine w_cT (m := .top) h3 (s1 := (⟨[E2], [], H⟩ : St)) (by kernel_rfl) (by kernel_rfl) ?_
  refine w_reg ⟨[(3, .one .top (.int .i64 (IntKind.wrap .i64 (j1 - 4294967296))))], [], H⟩ (by kernel_rfl) ?_
  exact ⟨(IntKind.wrap .i64 (j1 - 4294967296)), hF, (by kernel_rfl)⟩
  refine w_cF (m := .top) h3 (s1 := (⟨[E2], [], H⟩ : St)) (by kernel_rfl) (by kernel_rfl) ?_
  refine w_skip ?_
  exact ⟨j1, hF, (by kernel_rfl)⟩
  rcases if_inv hF with ⟨h4, hF⟩ | ⟨h4, hF⟩
  refine w_cT (m := .top) h4 (s1 := S4) (by kernel_rfl) (by kernel_rfl) ?_
  refine w_reg ⟨[(3, .one .top (.int .i64 (IntKind.wrap .i64 ((Int.tmod p0 4294967296) + 4294967296))))], [], H⟩ (by kernel_rfl) ?_
  exact ⟨(IntKind.wrap .i64 ((Int.tmod p0 4294967296) + 4294967296)), hF, (by kernel_rfl)⟩
  refine w_cF (m := .top) h4 (s1 := S4) (by kernel_rfl) (by kernel_rfl) ?_
  refine w_skip ?_
  exact ⟨(Int.tmod p0 4294967296), hF, (by kernel_rfl)⟩
noncomputable def ref01_Sext_j1 (j6 : Int) : Option (Int) :=
  bind1 (ref01_Round j6) fun r7 =>
  some r7
noncomputable def ref01_Sext  (p0 : Int) (p1 : Int) : Option (Int) :=
  if (decide (p1 < 1)) = true then (some 0)
  else (bind1 (ref01_Power (if 32 < p1 then 32 else p1)) fun r2 =>
  bind1 (remI .i64 (IntKind.wrap .i64 p0) r2) fun v4 =>
  if (decide (v4 ≥ (IntKind.wrap .i64 (Int.tdiv r2 2)))) = true then (ref01_Sext_j1 (IntKind.wrap .i64 (v4 - r2)))
  else (ref01_Sext_j1 v4))
theorem ok_ref01_Sext (H : Heap) {p0 : Int} {p1 : Int} {ra : Int} (hF : ref01_Sext p0 p1 = some ra) : evS X 80 [.one .top (.int .u32 p0), .one .top (.int .i64 p1)] H = some (.one .top (.int .i32 ra), H) := by
  let E1 : Nat × TV := (0, .one .top (.int .u32 p0))
  let E2 : Nat × TV := (1, .one .top (.int .i64 p1))
  let E4 : Nat × TV := (9, .one .top (.int .i64 p1))
  let E5 : Nat × TV := (10, .one .top (.int .i64 (if 32 < p1 then 32 else p1)))
  let E7 : Nat × TV := (12, .one .top (.int .u32 p0))
  let E8 : Nat × TV := (13, .one .top (.int .i64 (IntKind.wrap .i64 p0)))
  let S12 : St := ⟨[E1, E2], [], H⟩
  let S13 : St := ⟨[E1, E2, E4, E5], [], H⟩
  refine w_fun Try.func80 rfl (by kernel_rfl) true (by kernel_rfl) (s0 := S12) (by kernel_rfl) ?_
  unfold ref01_Sext at hF
  refine w_seq ?_
  refine w_reg S12 (by kernel_rfl) ?_
  refine w_seq ?_
  refine w_seq ?_
  refine w_reg ⟨[E1, E2, (8, .one .top (.bool (decide (p1 < 1))))], [], H⟩ (by kernel_rfl) ?_
  rcases if_inv hF with ⟨h1, hF⟩ | ⟨h1, hF⟩
  refine w_cT (m := .top) h1 (s1 := (⟨[], [], H⟩ : St)) (by kernel_rfl) (by kernel_rfl) ?_
  refine w_seq ?_
  refine w_reg ⟨[(4, .one .top (.int .i32 0))], [], H⟩ (by kernel_rfl) ?_
  refine w_ret ?_
  obtain e0 := some1_inv hF
  subst e0
  exact fin_pure (v := .one .top (.int .i32 0)) (by kernel_rfl) (by kernel_rfl) rfl (by kernel_rfl)
  refine w_cF (m := .top) h1 (s1 := S12) (by kernel_rfl) (by kernel_rfl) ?_
  refine w_skip ?_
  refine w_seq ?_
  obtain ⟨r2, c3, hF⟩ := bind1_inv hF
  let E3 : Nat × TV := (5, .one .top (.int .i64 r2))
  let E9 : Nat × TV := (14, .one .top (.int .i64 r2))
  let S14 : St := ⟨[E1, E3, E7, E8, E9], [], H⟩
  refine w_regO ⟨[E1, E3], [], H⟩ ?_ ?_
  refine o_run 2 S13 (by kernel_rfl) (by kernel_rfl) ?_
  refine o_one ⟨[E1, E2, E4, E5, (11, .one .top (.int .i64 r2))], [], H⟩ (st_call (d := (some 11)) (fz := false) (pure := true) (own := false) S13 (ok_ref01_Power H c3) (by kernel_rfl) (by kernel_rfl)) ?_
  refine o_run 1 ⟨[E1, E2, E3, E4, E5, (11, .one .top (.int .i64 r2))], [], H⟩ (by kernel_rfl) (by kernel_rfl) ?_
  exact o_end (by kernel_rfl) (by kernel_rfl)
  refine w_seq ?_
  obtain ⟨v4, h5, hF⟩ := bind1_inv hF
  let E6 : Nat × TV := (6, .one .top (.int .i64 v4))
  refine w_regO ⟨[E3, E6], [], H⟩ ?_ ?_
  refine o_run 3 S14 (by kernel_rfl) (by kernel_rfl) ?_
  refine o_one ⟨[E1, E3, E7, E8, E9, (15, .one .top (.int .i64 v4))], [], H⟩ (st_binI S14 .i64 h5 (ev_rem (P := X.P) (ty := 3) (x := (.tmp 13)) (y := (.tmp 14)) (m := .top) (m' := .top) (k := .i64) (a := (IntKind.wrap .i64 p0)) (b := r2)) (some 15) (by kernel_rfl) (by kernel_rfl)) ?_
  refine o_run 1 ⟨[E1, E3, E6, E7, E8, E9, (15, .one .top (.int .i64 v4))], [], H⟩ (by kernel_rfl) (by kernel_rfl) ?_
  exact o_end (by kernel_rfl) (by kernel_rfl)
  refine w_seq ?_
  refine w_seq ?_
  refine w_reg ⟨[E3, E6, (19, .one .top (.bool (decide (v4 ≥ (IntKind.wrap .i64 (Int.tdiv r2 2))))))], [], H⟩ (by kernel_rfl) ?_
  refine w_join (α := (Int)) (fun x => (⟨[(6, .one .top (.int .i64 x))], [], H⟩ : St)) (fun x => ref01_Sext_j1 x = some ra) ?_ ?_
  rintro j6 hF
  replace hF : ref01_Sext_j1 j6 = some ra := hF
  let E10 : Nat × TV := (6, .one .top (.int .i64 j6))
  let E11 : Nat × TV := (23, .one .top (.int .i64 j6))
  unfold ref01_Sext_j1 at hF
  refine w_seq ?_
  obtain ⟨r7, c8, hF⟩ := bind1_inv hF
  refine w_regO ⟨[(4, .one .top (.int .i32 r7))], [], H⟩ ?_ ?_
  refine o_run 1 ⟨[E10, E11], [], H⟩ (by kernel_rfl) (by kernel_rfl) ?_
  refine o_one ⟨[E10, E11, (24, .one .top (.int .i32 r7))], [], H⟩ (st_call (d := (some 24)) (fz := false) (pure := true) (own := false) (⟨[E10, E11], [], H⟩ : St) (ok_ref01_Round H c8) (by kernel_rfl) (by kernel_rfl)) ?_
  refine o_run 1 ⟨[(4, .one .top (.int .i32 r7)), E10, E11, (24, .one .top (.int .i32 r7))], [], H⟩ (by kernel_rfl) (by kernel_rfl) ?_
  exact o_end (by kernel_rfl) (by kernel_rfl)
  refine w_ret ?_
  obtain e0 := some1_inv hF
  subst e0
  exact fin_pure (v := .one .top (.int .i32 r7)) (by kernel_rfl) (by kernel_rfl) rfl (by kernel_rfl)
  rcases if_inv hF with ⟨h9, hF⟩ | ⟨h9, hF⟩
  refine w_cT (m := .top) h9 (s1 := (⟨[E3, E6], [], H⟩ : St)) (by kernel_rfl) (by kernel_rfl) ?_
  refine w_reg ⟨[(6, .one .top (.int .i64 (IntKind.wrap .i64 (v4 - r2))))], [], H⟩ (by kernel_rfl) ?_
  exact ⟨(IntKind.wrap .i64 (v4 - r2)), hF, (by kernel_rfl)⟩
  refine w_cF (m := .top) h9 (s1 := (⟨[E6], [], H⟩ : St)) (by kernel_rfl) (by kernel_rfl) ?_
  refine w_skip ?_
  exact ⟨v4, hF, (by kernel_rfl)⟩
noncomputable def ref02_Check_j2 (p0 : T_ref02_Instr) (j26 : Int) (j27 : Int) : Option (Int) :=
  if ((decide (p0.Imm_ < j26)) || (decide (p0.Imm_ > j27))) = true then (some 20)
  else (some 0)
noncomputable def ref02_Check_j4 (p0 : T_ref02_Instr) (j32 : Int) (j33 : Int) : Option (Int) :=
  ref02_Check_j2 p0 j32 j33
noncomputable def ref02_Check_j5 (p0 : T_ref02_Instr) (j35 : Int) (j36 : Int) : Option (Int) :=
  ref02_Check_j4 p0 j35 j36
noncomputable def ref02_Check_j3 (p0 : T_ref02_Instr) (r1 : Int) (j31 : Bool) : Option (Int) :=
  if j31 = true then (ref02_Check_j4 p0 0 65535)
  else (if (r1 == 7) = true then (ref02_Check_j5 p0 (-8388608) 8388607)
  else (ref02_Check_j5 p0 0 0))
noncomputable def ref02_Check_j6 (p0 : T_ref02_Instr) (r1 : Int) (j39 : Bool) : Option (Int) :=
  ref02_Check_j3 p0 r1 j39
noncomputable def ref02_Check_j1 (p0 : T_ref02_Instr) (r1 : Int) (j25 : Bool) : Option (Int) :=
  if j25 = true then (ref02_Check_j2 p0 (-32768) 32767)
  else (if (r1 == 2) = true then (ref02_Check_j3 p0 r1 (r1 == 2))
  else (if (r1 == 4) = true then (ref02_Check_j6 p0 r1 (r1 == 4))
  else (ref02_Check_j6 p0 r1 (r1 == 8))))
noncomputable def ref02_Check  (p0 : T_ref02_Instr) : Option (Int) :=
  bind1 (ref02_Shape p0.Op_) fun r1 =>
  if (decide (r1 < 0)) = true then (some 21)
  else (bind3 (ref02_has r1) fun r4 r5 r6 =>
  if ((decide (p0.A_ < 0)) || ((decide (p0.A_ > 15)) || ((decide (p0.B_ < 0)) || ((decide (p0.B_ > 15)) || ((decide (p0.C_ < 0)) || ((decide (p0.C_ > 15)) || (if (!r4) = true then ((p0.A_ != 0) || (if (!r5) = true then ((p0.B_ != 0) || ((!r6) && (p0.C_ != 0))) else ((!r6) && (p0.C_ != 0)))) else (if (!r5) = true then ((p0.B_ != 0) || ((!r6) && (p0.C_ != 0))) else ((!r6) && (p0.C_ != 0)))))))))) = true then (some 20)
  else (if (r1 == 1) = true then (ref02_Check_j1 p0 r1 (r1 == 1))
  else (ref02_Check_j1 p0 r1 (r1 == 3))))
theorem ok_ref02_Check (H : Heap) {p0 : T_ref02_Instr} {ra : Int} (hF : ref02_Check p0 = some ra) : evS X 108 [.agg (m0_ref02_Instr p0)] H = some (.one .top (.int .i64 ra), H) := by
  let E1 : Nat × TV := (1, .one .top (.loc 1 0))
  let B2 : Nat × List MC := (1, (m0_ref02_Instr p0))
  let E4 : Nat × TV := (9, .one .top (.loc 1 0))
  let E5 : Nat × TV := (10, .one .top (.int .i64 p0.Op_))
  let E11 : Nat × TV := (20, .one .top (.loc 1 1))
  let E12 : Nat × TV := (21, .one .top (.int .i64 p0.A_))
  let E13 : Nat × TV := (32, .one .top (.bool true))
  let E14 : Nat × TV := (33, .one .top (.bool true))
  let E15 : Nat × TV := (37, .one .top (.bool true))
  let E16 : Nat × TV := (38, .one .top (.bool true))
  let E17 : Nat × TV := (39, .tup [])
  let E18 : Nat × TV := (40, .tup [])
  let E19 : Nat × TV := (41, .tup [])
  let E20 : Nat × TV := (42, .one .top (.bool true))
  let E21 : Nat × TV := (43, .one .top (.bool true))
  let E22 : Nat × TV := (44, .tup [])
  let E23 : Nat × TV := (45, .tup [])
  let E24 : Nat × TV := (46, .tup [])
  let E25 : Nat × TV := (47, .one .top (.bool true))
  let E26 : Nat × TV := (48, .one .top (.bool true))
  let E27 : Nat × TV := (49, .tup [])
  let E28 : Nat × TV := (50, .tup [])
  let E29 : Nat × TV := (51, .tup [])
  let E30 : Nat × TV := (52, .tup [])
  let E31 : Nat × TV := (53, .tup [])
  let E32 : Nat × TV := (54, .tup [])
  let E33 : Nat × TV := (55, .tup [])
  let E34 : Nat × TV := (56, .one .top (.bool true))
  let E35 : Nat × TV := (57, .one .top (.bool true))
  let E36 : Nat × TV := (58, .tup [])
  let E37 : Nat × TV := (59, .tup [])
  let E38 : Nat × TV := (60, .tup [])
  let E39 : Nat × TV := (61, .tup [])
  let E40 : Nat × TV := (62, .tup [])
  let E41 : Nat × TV := (63, .tup [])
  let E42 : Nat × TV := (64, .tup [])
  let E43 : Nat × TV := (65, .one .top (.bool true))
  let E44 : Nat × TV := (66, .one .top (.bool true))
  let E45 : Nat × TV := (67, .tup [])
  let E46 : Nat × TV := (68, .tup [])
  let E47 : Nat × TV := (69, .tup [])
  let E48 : Nat × TV := (70, .tup [])
  let E49 : Nat × TV := (71, .tup [])
  let E50 : Nat × TV := (72, .tup [])
  let E51 : Nat × TV := (73, .tup [])
  let E52 : Nat × TV := (74, .one .top (.bool true))
  let E53 : Nat × TV := (22, .one .top (.bool false))
  let E54 : Nat × TV := (23, .one .top (.bool false))
  let E55 : Nat × TV := (24, .one .top (.loc 1 1))
  let E56 : Nat × TV := (25, .one .top (.int .i64 p0.A_))
  let E57 : Nat × TV := (26, .one .top (.bool false))
  let E58 : Nat × TV := (27, .one .top (.bool false))
  let E59 : Nat × TV := (28, .one .top (.bool false))
  let E60 : Nat × TV := (29, .one .top (.loc 1 2))
  let E61 : Nat × TV := (30, .one .top (.int .i64 p0.B_))
  let E62 : Nat × TV := (31, .one .top (.bool false))
  let E63 : Nat × TV := (32, .one .top (.bool false))
  let E64 : Nat × TV := (33, .one .top (.bool false))
  let E65 : Nat × TV := (34, .one .top (.loc 1 2))
  let E66 : Nat × TV := (35, .one .top (.int .i64 p0.B_))
  let E67 : Nat × TV := (36, .one .top (.bool false))
  let E68 : Nat × TV := (37, .one .top (.bool false))
  let E69 : Nat × TV := (38, .one .top (.bool false))
  let E70 : Nat × TV := (39, .one .top (.loc 1 3))
  let E71 : Nat × TV := (40, .one .top (.int .i64 p0.C_))
  let E72 : Nat × TV := (41, .one .top (.bool false))
  let E73 : Nat × TV := (42, .one .top (.bool false))
  let E74 : Nat × TV := (43, .one .top (.bool false))
  let E75 : Nat × TV := (44, .one .top (.loc 1 3))
  let E76 : Nat × TV := (45, .one .top (.int .i64 p0.C_))
  let E77 : Nat × TV := (46, .one .top (.bool false))
  let E78 : Nat × TV := (47, .one .top (.bool false))
  let E79 : Nat × TV := (48, .one .top (.bool false))
  let E81 : Nat × TV := (50, .one .top (.bool true))
  let E82 : Nat × TV := (51, .one .top (.bool true))
  let E83 : Nat × TV := (52, .one .top (.loc 1 1))
  let E84 : Nat × TV := (53, .one .top (.int .i64 p0.A_))
  let E85 : Nat × TV := (54, .one .top (.bool false))
  let E86 : Nat × TV := (55, .one .top (.bool false))
  let E87 : Nat × TV := (56, .one .top (.bool false))
  let E88 : Nat × TV := (57, .one .top (.bool false))
  let E90 : Nat × TV := (59, .one .top (.bool true))
  let E91 : Nat × TV := (60, .one .top (.bool true))
  let E92 : Nat × TV := (61, .one .top (.loc 1 2))
  let E93 : Nat × TV := (62, .one .top (.int .i64 p0.B_))
  let E94 : Nat × TV := (63, .one .top (.bool (p0.B_ != 0)))
  let E95 : Nat × TV := (64, .one .top (.bool (p0.B_ != 0)))
  let E96 : Nat × TV := (65, .one .top (.bool (p0.B_ != 0)))
  let E97 : Nat × TV := (66, .one .top (.bool (p0.B_ != 0)))
  let E98 : Nat × TV := (63, .one .top (.bool false))
  let E99 : Nat × TV := (64, .one .top (.bool false))
  let E100 : Nat × TV := (65, .one .top (.bool false))
  let E101 : Nat × TV := (66, .one .top (.bool false))
  let E105 : Nat × TV := (68, .one .top (.bool true))
  let E106 : Nat × TV := (69, .one .top (.bool true))
  let E107 : Nat × TV := (70, .one .top (.loc 1 3))
  let E108 : Nat × TV := (71, .one .top (.int .i64 p0.C_))
  let E109 : Nat × TV := (72, .one .top (.bool (p0.C_ != 0)))
  let E110 : Nat × TV := (73, .one .top (.bool (p0.C_ != 0)))
  let E111 : Nat × TV := (74, .one .top (.bool (p0.C_ != 0)))
  let E112 : Nat × TV := (68, .one .top (.bool false))
  let E113 : Nat × TV := (69, .one .top (.bool false))
  let E114 : Nat × TV := (73, .one .top (.bool false))
  let E115 : Nat × TV := (74, .one .top (.bool false))
  let E116 : Nat × TV := (59, .one .top (.bool false))
  let E117 : Nat × TV := (60, .one .top (.bool false))
  let E118 : Nat × TV := (50, .one .top (.bool false))
  let E119 : Nat × TV := (51, .one .top (.bool false))
  let E120 : Nat × TV := (7, .one .top (.int .i64 0))
  let E121 : Nat × TV := (8, .one .top (.int .i64 0))
  let E126 : Nat × TV := (85, .one .top (.loc 1 4))
  let E127 : Nat × TV := (86, .one .top (.int .i64 p0.Imm_))
  let S131 : St := ⟨[E1], [B2], H⟩
  let S133 : St := ⟨[E1, E4, E5], [B2], H⟩
  let S134 : St := ⟨[], [], H⟩
  let S136 : St := ⟨[(2, .one .top (.int .i64 20))], [], H⟩
  refine w_fun Try.func108 rfl (by kernel_rfl) true (by kernel_rfl) (s0 := (⟨[(0, .agg (m0_ref02_Instr p0))], [], H⟩ : St)) (by kernel_rfl) ?_
  unfold ref02_Check at hF
  refine w_seq ?_
  refine w_reg S131 (by kernel_rfl) ?_
  refine w_seq ?_
  obtain ⟨r1, c2, hF⟩ := bind1_inv hF
  let E3 : Nat × TV := (3, .one .top (.int .i64 r1))
  let E9 : Nat × TV := (15, .one .top (.int .i64 r1))
  let E122 : Nat × TV := (75, .one .top (.int .i64 r1))
  let E123 : Nat × TV := (76, .one .top (.bool (r1 == 1)))
  let E129 : Nat × TV := (79, .one .top (.bool (r1 == 2)))
  let E130 : Nat × TV := (79, .one .top (.bool (r1 == 4)))
  let S132 : St := ⟨[E1, E3], [B2], H⟩
  let S135 : St := ⟨[E1, E3, E9], [B2], H⟩
  let S137 : St := ⟨[E1, E120, E121, E122], [B2], H⟩
  let S138 : St := ⟨[E1, E120, E121, E122, E123], [B2], H⟩
  let S139 : St := ⟨[E1, E120, E121, E122, E129], [B2], H⟩
  let S140 : St := ⟨[E1, E120, E121, E122, E130], [B2], H⟩
  refine w_regO S132 ?_ ?_
  refine o_run 2 S133 (by kernel_rfl) (by kernel_rfl) ?_
  refine o_one ⟨[E1, E4, E5, (11, .one .top (.int .i64 r1))], [B2], H⟩ (st_call (d := (some 11)) (fz := false) (pure := true) (own := false) S133 (ok_ref02_Shape H c2) (by kernel_rfl) (by kernel_rfl)) ?_
  refine o_run 1 ⟨[E1, E3, E4, E5, (11, .one .top (.int .i64 r1))], [B2], H⟩ (by kernel_rfl) (by kernel_rfl) ?_
  exact o_end (by kernel_rfl) (by kernel_rfl)
  refine w_seq ?_
  refine w_seq ?_
  refine w_reg ⟨[E1, E3, (13, .one .top (.bool (decide (r1 < 0))))], [B2], H⟩ (by kernel_rfl) ?_
  rcases if_inv hF with ⟨h3, hF⟩ | ⟨h3, hF⟩
  refine w_cT (m := .top) h3 (s1 := S134) (by kernel_rfl) (by kernel_rfl) ?_
  refine w_seq ?_
  refine w_reg ⟨[(2, .one .top (.int .i64 21))], [], H⟩ (by kernel_rfl) ?_
  refine w_ret ?_
  obtain e0 := some1_inv hF
  subst e0
  exact fin_pure (v := .one .top (.int .i64 21)) (by kernel_rfl) (by kernel_rfl) rfl (by kernel_rfl)
  refine w_cF (m := .top) h3 (s1 := S132) (by kernel_rfl) (by kernel_rfl) ?_
  refine w_skip ?_
  refine w_seq ?_
  obtain ⟨r4, r5, r6, c7, hF⟩ := bind3_inv hF
  let E6 : Nat × TV := (4, .one .top (.bool r4))
  let E7 : Nat × TV := (5, .one .top (.bool r5))
  let E8 : Nat × TV := (6, .one .top (.bool r6))
  let E10 : Nat × TV := (16, .tup [.one .top (.bool r4), .one .top (.bool r5), .one .top (.bool r6)])
  let E80 : Nat × TV := (49, .one .top (.bool r4))
  let E89 : Nat × TV := (58, .one .top (.bool r5))
  let E102 : Nat × TV := (67, .one .top (.bool r6))
  let E103 : Nat × TV := (68, .one .top (.bool (!r6)))
  let E104 : Nat × TV := (69, .one .top (.bool (!r6)))
  refine w_regO ⟨[E1, E3, E6, E7, E8], [B2], H⟩ ?_ ?_
  refine o_run 1 S135 (by kernel_rfl) (by kernel_rfl) ?_
  refine o_one ⟨[E1, E3, E9, E10], [B2], H⟩ (st_call (d := (some 16)) (fz := false) (pure := true) (own := false) S135 (ok_ref02_has H c7) (by kernel_rfl) (by kernel_rfl)) ?_
  refine o_run 7 ⟨[E1, E3, E6, E7, E8, (14, .tup [.one .top (.bool r4), .one .top (.bool r5), .one .top (.bool r6)]), E9, E10, (17, .one .top (.bool r4)), (18, .one .top (.bool r5)), (19, .one .top (.bool r6))], [B2], H⟩ (by kernel_rfl) (by kernel_rfl) ?_
  exact o_end (by kernel_rfl) (by kernel_rfl)
  refine w_seq ?_
  refine w_seq ?_
  refine w_regO ⟨[E1, E3, (74, .one .top (.bool ((decide (p0.A_ < 0)) || ((decide (p0.A_ > 15)) || ((decide (p0.B_ < 0)) || ((decide (p0.B_ > 15)) || ((decide (p0.C_ < 0)) || ((decide (p0.C_ > 15)) || (if (!r4) = true then ((p0.A_ != 0) || (if (!r5) = true then ((p0.B_ != 0) || ((!r6) && (p0.C_ != 0))) else ((!r6) && (p0.C_ != 0)))) else (if (!r5) = true then ((p0.B_ != 0) || ((!r6) && (p0.C_ != 0))) else ((!r6) && (p0.C_ != 0))))))))))))], [B2], H⟩ ?_ ?_
  refine o_run 4 ⟨[E1, E3, E6, E7, E8, E11, E12, (22, .one .top (.bool (decide (p0.A_ < 0)))), (23, .one .top (.bool (decide (p0.A_ < 0))))], [B2], H⟩ (by kernel_rfl) (by kernel_rfl) ?_
  rcases bool_cases (decide (p0.A_ < 0)) with h8 | h8
  refine o_eq (congrArg (fun q => (⟨[E1, E3, E6, E7, E8, E11, E12, (22, .one .top (.bool q)), (23, .one .top (.bool q))], [B2], H⟩ : St)) h8) ?_
  refine o_run 51 ⟨[E1, E3, E6, E7, E8, E11, E12, (22, .one .top (.bool true)), (23, .one .top (.bool true)), (24, .tup []), (25, .tup []), (26, .tup []), (27, .one .top (.bool true)), (28, .one .top (.bool true)), (29, .tup []), (30, .tup []), (31, .tup []), E13, E14, (34, .tup []), (35, .tup []), (36, .tup []), E15, E16, E17, E18, E19, E20, E21, E22, E23, E24, E25, E26, E27, E28, E29, E30, E31, E32, E33, E34, E35, E36, E37, E38, E39, E40, E41, E42, E43, E44, E45, E46, E47, E48, E49, E50, E51, E52], [B2], H⟩ (by kernel_rfl) (by kernel_rfl) ?_
  refine o_eq2 (congrArg (fun q0 => (⟨[E1, E3, (74, .one .top (.bool q0))], [B2], H⟩ : St)) (show true = ((decide (p0.A_ < 0)) || ((decide (p0.A_ > 15)) || ((decide (p0.B_ < 0)) || ((decide (p0.B_ > 15)) || ((decide (p0.C_ < 0)) || ((decide (p0.C_ > 15)) || (if (!r4) = true then ((p0.A_ != 0) || (if (!r5) = true then ((p0.B_ != 0) || ((!r6) && (p0.C_ != 0))) else ((!r6) && (p0.C_ != 0)))) else (if (!r5) = true then ((p0.B_ != 0) || ((!r6) && (p0.C_ != 0))) else ((!r6) && (p0.C_ != 0)))))))))) by simp [h8])) ?_
  exact o_end (by kernel_rfl) (by kernel_rfl)
  refine o_eq (congrArg (fun q => (⟨[E1, E3, E6, E7, E8, E11, E12, (22, .one .top (.bool q)), (23, .one .top (.bool q))], [B2], H⟩ : St)) h8) ?_
  refine o_run 5 ⟨[E1, E3, E6, E7, E8, E11, E12, E53, E54, E55, E56, (26, .one .top (.bool (decide (p0.A_ > 15)))), (27, .one .top (.bool (decide (p0.A_ > 15)))), (28, .one .top (.bool (decide (p0.A_ > 15))))], [B2], H⟩ (by kernel_rfl) (by kernel_rfl) ?_
  rcases bool_cases (decide (p0.A_ > 15)) with h9 | h9
  refine o_eq (congrArg (fun q => (⟨[E1, E3, E6, E7, E8, E11, E12, E53, E54, E55, E56, (26, .one .top (.bool q)), (27, .one .top (.bool q)), (28, .one .top (.bool q))], [B2], H⟩ : St)) h9) ?_
  refine o_run 46 ⟨[E1, E3, E6, E7, E8, E11, E12, E53, E54, E55, E56, (26, .one .top (.bool true)), (27, .one .top (.bool true)), (28, .one .top (.bool true)), (29, .tup []), (30, .tup []), (31, .tup []), E13, E14, (34, .tup []), (35, .tup []), (36, .tup []), E15, E16, E17, E18, E19, E20, E21, E22, E23, E24, E25, E26, E27, E28, E29, E30, E31, E32, E33, E34, E35, E36, E37, E38, E39, E40, E41, E42, E43, E44, E45, E46, E47, E48, E49, E50, E51, E52], [B2], H⟩ (by kernel_rfl) (by kernel_rfl) ?_
  refine o_eq2 (congrArg (fun q0 => (⟨[E1, E3, (74, .one .top (.bool q0))], [B2], H⟩ : St)) (show true = ((decide (p0.A_ < 0)) || ((decide (p0.A_ > 15)) || ((decide (p0.B_ < 0)) || ((decide (p0.B_ > 15)) || ((decide (p0.C_ < 0)) || ((decide (p0.C_ > 15)) || (if (!r4) = true then ((p0.A_ != 0) || (if (!r5) = true then ((p0.B_ != 0) || ((!r6) && (p0.C_ != 0))) else ((!r6) && (p0.C_ != 0)))) else (if (!r5) = true then ((p0.B_ != 0) || ((!r6) && (p0.C_ != 0))) else ((!r6) && (p0.C_ != 0)))))))))) by simp [h8, h9])) ?_
  exact o_end (by kernel_rfl) (by kernel_rfl)
  refine o_eq (congrArg (fun q => (⟨[E1, E3, E6, E7, E8, E11, E12, E53, E54, E55, E56, (26, .one .top (.bool q)), (27, .one .top (.bool q)), (28, .one .top (.bool q))], [B2], H⟩ : St)) h9) ?_
  refine o_run 5 ⟨[E1, E3, E6, E7, E8, E11, E12, E53, E54, E55, E56, E57, E58, E59, E60, E61, (31, .one .top (.bool (decide (p0.B_ < 0)))), (32, .one .top (.bool (decide (p0.B_ < 0)))), (33, .one .top (.bool (decide (p0.B_ < 0))))], [B2], H⟩ (by kernel_rfl) (by kernel_rfl) ?_
  rcases bool_cases (decide (p0.B_ < 0)) with h10 | h10
  refine o_eq (congrArg (fun q => (⟨[E1, E3, E6, E7, E8, E11, E12, E53, E54, E55, E56, E57, E58, E59, E60, E61, (31, .one .top (.bool q)), (32, .one .top (.bool q)), (33, .one .top (.bool q))], [B2], H⟩ : St)) h10) ?_
  refine o_run 41 ⟨[E1, E3, E6, E7, E8, E11, E12, E53, E54, E55, E56, E57, E58, E59, E60, E61, (31, .one .top (.bool true)), E13, E14, (34, .tup []), (35, .tup []), (36, .tup []), E15, E16, E17, E18, E19, E20, E21, E22, E23, E24, E25, E26, E27, E28, E29, E30, E31, E32, E33, E34, E35, E36, E37, E38, E39, E40, E41, E42, E43, E44, E45, E46, E47, E48, E49, E50, E51, E52], [B2], H⟩ (by kernel_rfl) (by kernel_rfl) ?_
  refine o_eq2 (congrArg (fun q0 => (⟨[E1, E3, (74, .one .top (.bool q0))], [B2], H⟩ : St)) (show true = ((decide (p0.A_ < 0)) || ((decide (p0.A_ > 15)) || ((decide (p0.B_ < 0)) || ((decide (p0.B_ > 15)) || ((decide (p0.C_ < 0)) || ((decide (p0.C_ > 15)) || (if (!r4) = true then ((p0.A_ != 0) || (if (!r5) = true then ((p0.B_ != 0) || ((!r6) && (p0.C_ != 0))) else ((!r6) && (p0.C_ != 0)))) else (if (!r5) = true then ((p0.B_ != 0) || ((!r6) && (p0.C_ != 0))) else ((!r6) && (p0.C_ != 0)))))))))) by simp [h8, h9, h10])) ?_
  exact o_end (by kernel_rfl) (by kernel_rfl)
  refine o_eq (congrArg (fun q => (⟨[E1, E3, E6, E7, E8, E11, E12, E53, E54, E55, E56, E57, E58, E59, E60, E61, (31, .one .top (.bool q)), (32, .one .top (.bool q)), (33, .one .top (.bool q))], [B2], H⟩ : St)) h10) ?_
  refine o_run 5 ⟨[E1, E3, E6, E7, E8, E11, E12, E53, E54, E55, E56, E57, E58, E59, E60, E61, E62, E63, E64, E65, E66, (36, .one .top (.bool (decide (p0.B_ > 15)))), (37, .one .top (.bool (decide (p0.B_ > 15)))), (38, .one .top (.bool (decide (p0.B_ > 15))))], [B2], H⟩ (by kernel_rfl) (by kernel_rfl) ?_
  rcases bool_cases (decide (p0.B_ > 15)) with h11 | h11
  refine o_eq (congrArg (fun q => (⟨[E1, E3, E6, E7, E8, E11, E12, E53, E54, E55, E56, E57, E58, E59, E60, E61, E62, E63, E64, E65, E66, (36, .one .top (.bool q)), (37, .one .top (.bool q)), (38, .one .top (.bool q))], [B2], H⟩ : St)) h11) ?_
  refine o_run 36 ⟨[E1, E3, E6, E7, E8, E11, E12, E53, E54, E55, E56, E57, E58, E59, E60, E61, E62, E63, E64, E65, E66, (36, .one .top (.bool true)), E15, E16, E17, E18, E19, E20, E21, E22, E23, E24, E25, E26, E27, E28, E29, E30, E31, E32, E33, E34, E35, E36, E37, E38, E39, E40, E41, E42, E43, E44, E45, E46, E47, E48, E49, E50, E51, E52], [B2], H⟩ (by kernel_rfl) (by kernel_rfl) ?_
  refine o_eq2 (congrArg (fun q0 => (⟨[E1, E3, (74, .one .top (.bool q0))], [B2], H⟩ : St)) (show true = ((decide (p0.A_ < 0)) || ((decide (p0.A_ > 15)) || ((decide (p0.B_ < 0)) || ((decide (p0.B_ > 15)) || ((decide (p0.C_ < 0)) || ((decide (p0.C_ > 15)) || (if (!r4) = true then ((p0.A_ != 0) || (if (!r5) = true then ((p0.B_ != 0) || ((!r6) && (p0.C_ != 0))) else ((!r6) && (p0.C_ != 0)))) else (if (!r5) = true then ((p0.B_ != 0) || ((!r6) && (p0.C_ != 0))) else ((!r6) && (p0.C_ != 0)))))))))) by simp [h8, h9, h10, h11])) ?_
  exact o_end (by kernel_rfl) (by kernel_rfl)
  refine o_eq (congrArg (fun q => (⟨[E1, E3, E6, E7, E8, E11, E12, E53, E54, E55, E56, E57, E58, E59, E60, E61, E62, E63, E64, E65, E66, (36, .one .top (.bool q)), (37, .one .top (.bool q)), (38, .one .top (.bool q))], [B2], H⟩ : St)) h11) ?_
  refine o_run 5 ⟨[E1, E3, E6, E7, E8, E11, E12, E53, E54, E55, E56, E57, E58, E59, E60, E61, E62, E63, E64, E65, E66, E67, E68, E69, E70, E71, (41, .one .top (.bool (decide (p0.C_ < 0)))), (42, .one .top (.bool (decide (p0.C_ < 0)))), (43, .one .top (.bool (decide (p0.C_ < 0))))], [B2], H⟩ (by kernel_rfl) (by kernel_rfl) ?_
  rcases bool_cases (decide (p0.C_ < 0)) with h12 | h12
  refine o_eq (congrArg (fun q => (⟨[E1, E3, E6, E7, E8, E11, E12, E53, E54, E55, E56, E57, E58, E59, E60, E61, E62, E63, E64, E65, E66, E67, E68, E69, E70, E71, (41, .one .top (.bool q)), (42, .one .top (.bool q)), (43, .one .top (.bool q))], [B2], H⟩ : St)) h12) ?_
  refine o_run 31 ⟨[E1, E3, E6, E7, E8, E11, E12, E53, E54, E55, E56, E57, E58, E59, E60, E61, E62, E63, E64, E65, E66, E67, E68, E69, E70, E71, (41, .one .top (.bool true)), E20, E21, E22, E23, E24, E25, E26, E27, E28, E29, E30, E31, E32, E33, E34, E35, E36, E37, E38, E39, E40, E41, E42, E43, E44, E45, E46, E47, E48, E49, E50, E51, E52], [B2], H⟩ (by kernel_rfl) (by kernel_rfl) ?_
  refine o_eq2 (congrArg (fun q0 => (⟨[E1, E3, (74, .one .top (.bool q0))], [B2], H⟩ : St)) (show true = ((decide (p0.A_ < 0)) || ((decide (p0.A_ > 15)) || ((decide (p0.B_ < 0)) || ((decide (p0.B_ > 15)) || ((decide (p0.C_ < 0)) || ((decide (p0.C_ > 15)) || (if (!r4) = true then ((p0.A_ != 0) || (if (!r5) = true then ((p0.B_ != 0) || ((!r6) && (p0.C_ != 0))) else ((!r6) && (p0.C_ != 0)))) else (if (!r5) = true then ((p0.B_ != 0) || ((!r6) && (p0.C_ != 0))) else ((!r6) && (p0.C_ != 0)))))))))) by simp [h8, h9, h10, h11, h12])) ?_
  exact o_end (by kernel_rfl) (by kernel_rfl)
  refine o_eq (congrArg (fun q => (⟨[E1, E3, E6, E7, E8, E11, E12, E53, E54, E55, E56, E57, E58, E59, E60, E61, E62, E63, E64, E65, E66, E67, E68, E69, E70, E71, (41, .one .top (.bool q)), (42, .one .top (.bool q)), (43, .one .top (.bool q))], [B2], H⟩ : St)) h12) ?_
  refine o_run 5 ⟨[E1, E3, E6, E7, E8, E11, E12, E53, E54, E55, E56, E57, E58, E59, E60, E61, E62, E63, E64, E65, E66, E67, E68, E69, E70, E71, E72, E73, E74, E75, E76, (46, .one .top (.bool (decide (p0.C_ > 15)))), (47, .one .top (.bool (decide (p0.C_ > 15)))), (48, .one .top (.bool (decide (p0.C_ > 15))))], [B2], H⟩ (by kernel_rfl) (by kernel_rfl) ?_
  rcases bool_cases (decide (p0.C_ > 15)) with h13 | h13
  refine o_eq (congrArg (fun q => (⟨[E1, E3, E6, E7, E8, E11, E12, E53, E54, E55, E56, E57, E58, E59, E60, E61, E62, E63, E64, E65, E66, E67, E68, E69, E70, E71, E72, E73, E74, E75, E76, (46, .one .top (.bool q)), (47, .one .top (.bool q)), (48, .one .top (.bool q))], [B2], H⟩ : St)) h13) ?_
  refine o_run 26 ⟨[E1, E3, E6, E7, E8, E11, E12, E53, E54, E55, E56, E57, E58, E59, E60, E61, E62, E63, E64, E65, E66, E67, E68, E69, E70, E71, E72, E73, E74, E75, E76, (46, .one .top (.bool true)), E25, E26, E27, E28, E29, E30, E31, E32, E33, E34, E35, E36, E37, E38, E39, E40, E41, E42, E43, E44, E45, E46, E47, E48, E49, E50, E51, E52], [B2], H⟩ (by kernel_rfl) (by kernel_rfl) ?_
  refine o_eq2 (congrArg (fun q0 => (⟨[E1, E3, (74, .one .top (.bool q0))], [B2], H⟩ : St)) (show true = ((decide (p0.A_ < 0)) || ((decide (p0.A_ > 15)) || ((decide (p0.B_ < 0)) || ((decide (p0.B_ > 15)) || ((decide (p0.C_ < 0)) || ((decide (p0.C_ > 15)) || (if (!r4) = true then ((p0.A_ != 0) || (if (!r5) = true then ((p0.B_ != 0) || ((!r6) && (p0.C_ != 0))) else ((!r6) && (p0.C_ != 0)))) else (if (!r5) = true then ((p0.B_ != 0) || ((!r6) && (p0.C_ != 0))) else ((!r6) && (p0.C_ != 0)))))))))) by simp [h8, h9, h10, h11, h12, h13])) ?_
  exact o_end (by kernel_rfl) (by kernel_rfl)
  refine o_eq (congrArg (fun q => (⟨[E1, E3, E6, E7, E8, E11, E12, E53, E54, E55, E56, E57, E58, E59, E60, E61, E62, E63, E64, E65, E66, E67, E68, E69, E70, E71, E72, E73, E74, E75, E76, (46, .one .top (.bool q)), (47, .one .top (.bool q)), (48, .one .top (.bool q))], [B2], H⟩ : St)) h13) ?_
  refine o_run 3 ⟨[E1, E3, E6, E7, E8, E11, E12, E53, E54, E55, E56, E57, E58, E59, E60, E61, E62, E63, E64, E65, E66, E67, E68, E69, E70, E71, E72, E73, E74, E75, E76, E77, E78, E79, E80, (50, .one .top (.bool (!r4))), (51, .one .top (.bool (!r4)))], [B2], H⟩ (by kernel_rfl) (by kernel_rfl) ?_
  rcases bool_cases (!r4) with h14 | h14
  refine o_eq (congrArg (fun q => (⟨[E1, E3, E6, E7, E8, E11, E12, E53, E54, E55, E56, E57, E58, E59, E60, E61, E62, E63, E64, E65, E66, E67, E68, E69, E70, E71, E72, E73, E74, E75, E76, E77, E78, E79, E80, (50, .one .top (.bool q)), (51, .one .top (.bool q))], [B2], H⟩ : St)) h14) ?_
  refine o_run 6 ⟨[E1, E3, E6, E7, E8, E11, E12, E53, E54, E55, E56, E57, E58, E59, E60, E61, E62, E63, E64, E65, E66, E67, E68, E69, E70, E71, E72, E73, E74, E75, E76, E77, E78, E79, E80, E81, E82, E83, E84, (54, .one .top (.bool (p0.A_ != 0))), (55, .one .top (.bool (p0.A_ != 0))), (56, .one .top (.bool (p0.A_ != 0))), (57, .one .top (.bool (p0.A_ != 0)))], [B2], H⟩ (by kernel_rfl) (by kernel_rfl) ?_
  rcases bool_cases (p0.A_ != 0) with h15 | h15
  refine o_eq (congrArg (fun q => (⟨[E1, E3, E6, E7, E8, E11, E12, E53, E54, E55, E56, E57, E58, E59, E60, E61, E62, E63, E64, E65, E66, E67, E68, E69, E70, E71, E72, E73, E74, E75, E76, E77, E78, E79, E80, E81, E82, E83, E84, (54, .one .top (.bool q)), (55, .one .top (.bool q)), (56, .one .top (.bool q)), (57, .one .top (.bool q))], [B2], H⟩ : St)) h15) ?_
  refine o_run 17 ⟨[E1, E3, E6, E7, E8, E11, E12, E53, E54, E55, E56, E57, E58, E59, E60, E61, E62, E63, E64, E65, E66, E67, E68, E69, E70, E71, E72, E73, E74, E75, E76, E77, E78, E79, E80, E81, E82, E83, E84, (54, .one .top (.bool true)), (55, .one .top (.bool true)), E34, E35, E36, E37, E38, E39, E40, E41, E42, E43, E44, E45, E46, E47, E48, E49, E50, E51, E52], [B2], H⟩ (by kernel_rfl) (by kernel_rfl) ?_
  refine o_eq2 (congrArg (fun q0 => (⟨[E1, E3, (74, .one .top (.bool q0))], [B2], H⟩ : St)) (show true = ((decide (p0.A_ < 0)) || ((decide (p0.A_ > 15)) || ((decide (p0.B_ < 0)) || ((decide (p0.B_ > 15)) || ((decide (p0.C_ < 0)) || ((decide (p0.C_ > 15)) || (if (!r4) = true then ((p0.A_ != 0) || (if (!r5) = true then ((p0.B_ != 0) || ((!r6) && (p0.C_ != 0))) else ((!r6) && (p0.C_ != 0)))) else (if (!r5) = true then ((p0.B_ != 0) || ((!r6) && (p0.C_ != 0))) else ((!r6) && (p0.C_ != 0)))))))))) by simp [h8, h9, h10, h11, h12, h13, h14, h15])) ?_
  exact o_end (by kernel_rfl) (by kernel_rfl)
  refine o_eq (congrArg (fun q => (⟨[E1, E3, E6, E7, E8, E11, E12, E53, E54, E55, E56, E57, E58, E59, E60, E61, E62, E63, E64, E65, E66, E67, E68, E69, E70, E71, E72, E73, E74, E75, E76, E77, E78, E79, E80, E81, E82, E83, E84, (54, .one .top (.bool q)), (55, .one .top (.bool q)), (56, .one .top (.bool q)), (57, .one .top (.bool q))], [B2], H⟩ : St)) h15) ?_
  refine o_run 3 ⟨[E1, E3, E6, E7, E8, E11, E12, E53, E54, E55, E56, E57, E58, E59, E60, E61, E62, E63, E64, E65, E66, E67, E68, E69, E70, E71, E72, E73, E74, E75, E76, E77, E78, E79, E80, E81, E82, E83, E84, E85, E86, E87, E88, E89, (59, .one .top (.bool (!r5))), (60, .one .top (.bool (!r5)))], [B2], H⟩ (by kernel_rfl) (by kernel_rfl) ?_
  rcases bool_cases (!r5) with h16 | h16
  refine o_eq (congrArg (fun q => (⟨[E1, E3, E6, E7, E8, E11, E12, E53, E54, E55, E56, E57, E58, E59, E60, E61, E62, E63, E64, E65, E66, E67, E68, E69, E70, E71, E72, E73, E74, E75, E76, E77, E78, E79, E80, E81, E82, E83, E84, E85, E86, E87, E88, E89, (59, .one .top (.bool q)), (60, .one .top (.bool q))], [B2], H⟩ : St)) h16) ?_
  refine o_run 6 ⟨[E1, E3, E6, E7, E8, E11, E12, E53, E54, E55, E56, E57, E58, E59, E60, E61, E62, E63, E64, E65, E66, E67, E68, E69, E70, E71, E72, E73, E74, E75, E76, E77, E78, E79, E80, E81, E82, E83, E84, E85, E86, E87, E88, E89, E90, E91, E92, E93, E94, E95, E96, E97], [B2], H⟩ (by kernel_rfl) (by kernel_rfl) ?_
  rcases bool_cases (p0.B_ != 0) with h17 | h17
  refine o_eq (congrArg (fun q => (⟨[E1, E3, E6, E7, E8, E11, E12, E53, E54, E55, E56, E57, E58, E59, E60, E61, E62, E63, E64, E65, E66, E67, E68, E69, E70, E71, E72, E73, E74, E75, E76, E77, E78, E79, E80, E81, E82, E83, E84, E85, E86, E87, E88, E89, E90, E91, E92, E93, (63, .one .top (.bool q)), (64, .one .top (.bool q)), (65, .one .top (.bool q)), (66, .one .top (.bool q))], [B2], H⟩ : St)) h17) ?_
  refine o_run 8 ⟨[E1, E3, E6, E7, E8, E11, E12, E53, E54, E55, E56, E57, E58, E59, E60, E61, E62, E63, E64, E65, E66, E67, E68, E69, E70, E71, E72, E73, E74, E75, E76, E77, E78, E79, E80, E81, E82, E83, E84, E85, E86, E87, E88, E89, E90, E91, E92, E93, (63, .one .top (.bool true)), (64, .one .top (.bool true)), E43, E44, E45, E46, E47, E48, E49, E50, E51, E52], [B2], H⟩ (by kernel_rfl) (by kernel_rfl) ?_
  refine o_eq2 (congrArg (fun q0 => (⟨[E1, E3, (74, .one .top (.bool q0))], [B2], H⟩ : St)) (show true = ((decide (p0.A_ < 0)) || ((decide (p0.A_ > 15)) || ((decide (p0.B_ < 0)) || ((decide (p0.B_ > 15)) || ((decide (p0.C_ < 0)) || ((decide (p0.C_ > 15)) || (if (!r4) = true then ((p0.A_ != 0) || (if (!r5) = true then ((p0.B_ != 0) || ((!r6) && (p0.C_ != 0))) else ((!r6) && (p0.C_ != 0)))) else (if (!r5) = true then ((p0.B_ != 0) || ((!r6) && (p0.C_ != 0))) else ((!r6) && (p0.C_ != 0)))))))))) by simp [h8, h9, h10, h11, h12, h13, h14, h15, h16, h17])) ?_
  exact o_end (by kernel_rfl) (by kernel_rfl)
  refine o_eq (congrArg (fun q => (⟨[E1, E3, E6, E7, E8, E11, E12, E53, E54, E55, E56, E57, E58, E59, E60, E61, E62, E63, E64, E65, E66, E67, E68, E69, E70, E71, E72, E73, E74, E75, E76, E77, E78, E79, E80, E81, E82, E83, E84, E85, E86, E87, E88, E89, E90, E91, E92, E93, (63, .one .top (.bool q)), (64, .one .top (.bool q)), (65, .one .top (.bool q)), (66, .one .top (.bool q))], [B2], H⟩ : St)) h17) ?_
  refine o_run 3 ⟨[E1, E3, E6, E7, E8, E11, E12, E53, E54, E55, E56, E57, E58, E59, E60, E61, E62, E63, E64, E65, E66, E67, E68, E69, E70, E71, E72, E73, E74, E75, E76, E77, E78, E79, E80, E81, E82, E83, E84, E85, E86, E87, E88, E89, E90, E91, E92, E93, E98, E99, E100, E101, E102, E103, E104], [B2], H⟩ (by kernel_rfl) (by kernel_rfl) ?_
  rcases bool_cases (!r6) with h18 | h18
  refine o_eq (congrArg (fun q => (⟨[E1, E3, E6, E7, E8, E11, E12, E53, E54, E55, E56, E57, E58, E59, E60, E61, E62, E63, E64, E65, E66, E67, E68, E69, E70, E71, E72, E73, E74, E75, E76, E77, E78, E79, E80, E81, E82, E83, E84, E85, E86, E87, E88, E89, E90, E91, E92, E93, E98, E99, E100, E101, E102, (68, .one .top (.bool q)), (69, .one .top (.bool q))], [B2], H⟩ : St)) h18) ?_
  refine o_run 5 ⟨[E1, E3, E6, E7, E8, E11, E12, E53, E54, E55, E56, E57, E58, E59, E60, E61, E62, E63, E64, E65, E66, E67, E68, E69, E70, E71, E72, E73, E74, E75, E76, E77, E78, E79, E80, E81, E82, E83, E84, E85, E86, E87, E88, E89, E90, E91, E92, E93, E98, E99, E100, E101, E102, E105, E106, E107, E108, E109, E110, E111], [B2], H⟩ (by kernel_rfl) (by kernel_rfl) ?_
  refine o_eq2 (congrArg (fun q0 => (⟨[E1, E3, (74, .one .top (.bool q0))], [B2], H⟩ : St)) (show (p0.C_ != 0) = ((decide (p0.A_ < 0)) || ((decide (p0.A_ > 15)) || ((decide (p0.B_ < 0)) || ((decide (p0.B_ > 15)) || ((decide (p0.C_ < 0)) || ((decide (p0.C_ > 15)) || (if (!r4) = true then ((p0.A_ != 0) || (if (!r5) = true then ((p0.B_ != 0) || ((!r6) && (p0.C_ != 0))) else ((!r6) && (p0.C_ != 0)))) else (if (!r5) = true then ((p0.B_ != 0) || ((!r6) && (p0.C_ != 0))) else ((!r6) && (p0.C_ != 0)))))))))) by simp [h8, h9, h10, h11, h12, h13, h14, h15, h16, h17, h18])) ?_
  exact o_end (by kernel_rfl) (by kernel_rfl)
  refine o_eq (congrArg (fun q => (⟨[E1, E3, E6, E7, E8, E11, E12, E53, E54, E55, E56, E57, E58, E59, E60, E61, E62, E63, E64, E65, E66, E67, E68, E69, E70, E71, E72, E73, E74, E75, E76, E77, E78, E79, E80, E81, E82, E83, E84, E85, E86, E87, E88, E89, E90, E91, E92, E93, E98, E99, E100, E101, E102, (68, .one .top (.bool q)), (69, .one .top (.bool q))], [B2], H⟩ : St)) h18) ?_
  refine o_run 5 ⟨[E1, E3, E6, E7, E8, E11, E12, E53, E54, E55, E56, E57, E58, E59, E60, E61, E62, E63, E64, E65, E66, E67, E68, E69, E70, E71, E72, E73, E74, E75, E76, E77, E78, E79, E80, E81, E82, E83, E84, E85, E86, E87, E88, E89, E90, E91, E92, E93, E98, E99, E100, E101, E102, E112, E113, E48, E49, E50, E114, E115], [B2], H⟩ (by kernel_rfl) (by kernel_rfl) ?_
  refine o_eq2 (congrArg (fun q0 => (⟨[E1, E3, (74, .one .top (.bool q0))], [B2], H⟩ : St)) (show false = ((decide (p0.A_ < 0)) || ((decide (p0.A_ > 15)) || ((decide (p0.B_ < 0)) || ((decide (p0.B_ > 15)) || ((decide (p0.C_ < 0)) || ((decide (p0.C_ > 15)) || (if (!r4) = true then ((p0.A_ != 0) || (if (!r5) = true then ((p0.B_ != 0) || ((!r6) && (p0.C_ != 0))) else ((!r6) && (p0.C_ != 0)))) else (if (!r5) = true then ((p0.B_ != 0) || ((!r6) && (p0.C_ != 0))) else ((!r6) && (p0.C_ != 0)))))))))) by simp [h8, h9, h10, h11, h12, h13, h14, h15, h16, h17, h18])) ?_
  exact o_end (by kernel_rfl) (by kernel_rfl)
  refine o_eq (congrArg (fun q => (⟨[E1, E3, E6, E7, E8, E11, E12, E53, E54, E55, E56, E57, E58, E59, E60, E61, E62, E63, E64, E65, E66, E67, E68, E69, E70, E71, E72, E73, E74, E75, E76, E77, E78, E79, E80, E81, E82, E83, E84, E85, E86, E87, E88, E89, (59, .one .top (.bool q)), (60, .one .top (.bool q))], [B2], H⟩ : St)) h16) ?_
  refine o_run 9 ⟨[E1, E3, E6, E7, E8, E11, E12, E53, E54, E55, E56, E57, E58, E59, E60, E61, E62, E63, E64, E65, E66, E67, E68, E69, E70, E71, E72, E73, E74, E75, E76, E77, E78, E79, E80, E81, E82, E83, E84, E85, E86, E87, E88, E89, E116, E117, E39, E40, E41, E99, E100, E101, E102, E103, E104], [B2], H⟩ (by kernel_rfl) (by kernel_rfl) ?_
  rcases bool_cases (!r6) with h19 | h19
  refine o_eq (congrArg (fun q => (⟨[E1, E3, E6, E7, E8, E11, E12, E53, E54, E55, E56, E57, E58, E59, E60, E61, E62, E63, E64, E65, E66, E67, E68, E69, E70, E71, E72, E73, E74, E75, E76, E77, E78, E79, E80, E81, E82, E83, E84, E85, E86, E87, E88, E89, E116, E117, E39, E40, E41, E99, E100, E101, E102, (68, .one .top (.bool q)), (69, .one .top (.bool q))], [B2], H⟩ : St)) h19) ?_
  refine o_run 5 ⟨[E1, E3, E6, E7, E8, E11, E12, E53, E54, E55, E56, E57, E58, E59, E60, E61, E62, E63, E64, E65, E66, E67, E68, E69, E70, E71, E72, E73, E74, E75, E76, E77, E78, E79, E80, E81, E82, E83, E84, E85, E86, E87, E88, E89, E116, E117, E39, E40, E41, E99, E100, E101, E102, E105, E106, E107, E108, E109, E110, E111], [B2], H⟩ (by kernel_rfl) (by kernel_rfl) ?_
  refine o_eq2 (congrArg (fun q0 => (⟨[E1, E3, (74, .one .top (.bool q0))], [B2], H⟩ : St)) (show (p0.C_ != 0) = ((decide (p0.A_ < 0)) || ((decide (p0.A_ > 15)) || ((decide (p0.B_ < 0)) || ((decide (p0.B_ > 15)) || ((decide (p0.C_ < 0)) || ((decide (p0.C_ > 15)) || (if (!r4) = true then ((p0.A_ != 0) || (if (!r5) = true then ((p0.B_ != 0) || ((!r6) && (p0.C_ != 0))) else ((!r6) && (p0.C_ != 0)))) else (if (!r5) = true then ((p0.B_ != 0) || ((!r6) && (p0.C_ != 0))) else ((!r6) && (p0.C_ != 0)))))))))) by simp [h8, h9, h10, h11, h12, h13, h14, h15, h16, h19])) ?_
  exact o_end (by kernel_rfl) (by kernel_rfl)
  refine o_eq (congrArg (fun q => (⟨[E1, E3, E6, E7, E8, E11, E12, E53, E54, E55, E56, E57, E58, E59, E60, E61, E62, E63, E64, E65, E66, E67, E68, E69, E70, E71, E72, E73, E74, E75, E76, E77, E78, E79, E80, E81, E82, E83, E84, E85, E86, E87, E88, E89, E116, E117, E39, E40, E41, E99, E100, E101, E102, (68, .one .top (.bool q)), (69, .one .top (.bool q))], [B2], H⟩ : St)) h19) ?_
  refine o_run 5 ⟨[E1, E3, E6, E7, E8, E11, E12, E53, E54, E55, E56, E57, E58, E59, E60, E61, E62, E63, E64, E65, E66, E67, E68, E69, E70, E71, E72, E73, E74, E75, E76, E77, E78, E79, E80, E81, E82, E83, E84, E85, E86, E87, E88, E89, E116, E117, E39, E40, E41, E99, E100, E101, E102, E112, E113, E48, E49, E50, E114, E115], [B2], H⟩ (by kernel_rfl) (by kernel_rfl) ?_
  refine o_eq2 (congrArg (fun q0 => (⟨[E1, E3, (74, .one .top (.bool q0))], [B2], H⟩ : St)) (show false = ((decide (p0.A_ < 0)) || ((decide (p0.A_ > 15)) || ((decide (p0.B_ < 0)) || ((decide (p0.B_ > 15)) || ((decide (p0.C_ < 0)) || ((decide (p0.C_ > 15)) || (if (!r4) = true then ((p0.A_ != 0) || (if (!r5) = true then ((p0.B_ != 0) || ((!r6) && (p0.C_ != 0))) else ((!r6) && (p0.C_ != 0)))) else (if (!r5) = true then ((p0.B_ != 0) || ((!r6) && (p0.C_ != 0))) else ((!r6) && (p0.C_ != 0)))))))))) by simp [h8, h9, h10, h11, h12, h13, h14, h15, h16, h19])) ?_
  exact o_end (by kernel_rfl) (by kernel_rfl)
  refine o_eq (congrArg (fun q => (⟨[E1, E3, E6, E7, E8, E11, E12, E53, E54, E55, E56, E57, E58, E59, E60, E61, E62, E63, E64, E65, E66, E67, E68, E69, E70, E71, E72, E73, E74, E75, E76, E77, E78, E79, E80, (50, .one .top (.bool q)), (51, .one .top (.bool q))], [B2], H⟩ : St)) h14) ?_
  refine o_run 9 ⟨[E1, E3, E6, E7, E8, E11, E12, E53, E54, E55, E56, E57, E58, E59, E60, E61, E62, E63, E64, E65, E66, E67, E68, E69, E70, E71, E72, E73, E74, E75, E76, E77, E78, E79, E80, E118, E119, E30, E31, E32, E86, E87, E88, E89, (59, .one .top (.bool (!r5))), (60, .one .top (.bool (!r5)))], [B2], H⟩ (by kernel_rfl) (by kernel_rfl) ?_
  rcases bool_cases (!r5) with h20 | h20
  refine o_eq (congrArg (fun q => (⟨[E1, E3, E6, E7, E8, E11, E12, E53, E54, E55, E56, E57, E58, E59, E60, E61, E62, E63, E64, E65, E66, E67, E68, E69, E70, E71, E72, E73, E74, E75, E76, E77, E78, E79, E80, E118, E119, E30, E31, E32, E86, E87, E88, E89, (59, .one .top (.bool q)), (60, .one .top (.bool q))], [B2], H⟩ : St)) h20) ?_
  refine o_run 6 ⟨[E1, E3, E6, E7, E8, E11, E12, E53, E54, E55, E56, E57, E58, E59, E60, E61, E62, E63, E64, E65, E66, E67, E68, E69, E70, E71, E72, E73, E74, E75, E76, E77, E78, E79, E80, E118, E119, E30, E31, E32, E86, E87, E88, E89, E90, E91, E92, E93, E94, E95, E96, E97], [B2], H⟩ (by kernel_rfl) (by kernel_rfl) ?_
  rcases bool_cases (p0.B_ != 0) with h21 | h21
  refine o_eq (congrArg (fun q => (⟨[E1, E3, E6, E7, E8, E11, E12, E53, E54, E55, E56, E57, E58, E59, E60, E61, E62, E63, E64, E65, E66, E67, E68, E69, E70, E71, E72, E73, E74, E75, E76, E77, E78, E79, E80, E118, E119, E30, E31, E32, E86, E87, E88, E89, E90, E91, E92, E93, (63, .one .top (.bool q)), (64, .one .top (.bool q)), (65, .one .top (.bool q)), (66, .one .top (.bool q))], [B2], H⟩ : St)) h21) ?_
  refine o_run 8 ⟨[E1, E3, E6, E7, E8, E11, E12, E53, E54, E55, E56, E57, E58, E59, E60, E61, E62, E63, E64, E65, E66, E67, E68, E69, E70, E71, E72, E73, E74, E75, E76, E77, E78, E79, E80, E118, E119, E30, E31, E32, E86, E87, E88, E89, E90, E91, E92, E93, (63, .one .top (.bool true)), (64, .one .top (.bool true)), E43, E44, E45, E46, E47, E48, E49, E50, E51, E52], [B2], H⟩ (by kernel_rfl) (by kernel_rfl) ?_
  refine o_eq2 (congrArg (fun q0 => (⟨[E1, E3, (74, .one .top (.bool q0))], [B2], H⟩ : St)) (show true = ((decide (p0.A_ < 0)) || ((decide (p0.A_ > 15)) || ((decide (p0.B_ < 0)) || ((decide (p0.B_ > 15)) || ((decide (p0.C_ < 0)) || ((decide (p0.C_ > 15)) || (if (!r4) = true then ((p0.A_ != 0) || (if (!r5) = true then ((p0.B_ != 0) || ((!r6) && (p0.C_ != 0))) else ((!r6) && (p0.C_ != 0)))) else (if (!r5) = true then ((p0.B_ != 0) || ((!r6) && (p0.C_ != 0))) else ((!r6) && (p0.C_ != 0)))))))))) by simp [h8, h9, h10, h11, h12, h13, h14, h20, h21])) ?_
  exact o_end (by kernel_rfl) (by kernel_rfl)
  refine o_eq (congrArg (fun q => (⟨[E1, E3, E6, E7, E8, E11, E12, E53, E54, E55, E56, E57, E58, E59, E60, E61, E62, E63, E64, E65, E66, E67, E68, E69, E70, E71, E72, E73, E74, E75, E76, E77, E78, E79, E80, E118, E119, E30, E31, E32, E86, E87, E88, E89, E90, E91, E92, E93, (63, .one .top (.bool q)), (64, .one .top (.bool q)), (65, .one .top (.bool q)), (66, .one .top (.bool q))], [B2], H⟩ : St)) h21) ?_
  refine o_run 3 ⟨[E1, E3, E6, E7, E8, E11, E12, E53, E54, E55, E56, E57, E58, E59, E60, E61, E62, E63, E64, E65, E66, E67, E68, E69, E70, E71, E72, E73, E74, E75, E76, E77, E78, E79, E80, E118, E119, E30, E31, E32, E86, E87, E88, E89, E90, E91, E92, E93, E98, E99, E100, E101, E102, E103, E104], [B2], H⟩ (by kernel_rfl) (by kernel_rfl) ?_
  rcases bool_cases (!r6) with h22 | h22
  refine o_eq (congrArg (fun q => (⟨[E1, E3, E6, E7, E8, E11, E12, E53, E54, E55, E56, E57, E58, E59, E60, E61, E62, E63, E64, E65, E66, E67, E68, E69, E70, E71, E72, E73, E74, E75, E76, E77, E78, E79, E80, E118, E119, E30, E31, E32, E86, E87, E88, E89, E90, E91, E92, E93, E98, E99, E100, E101, E102, (68, .one .top (.bool q)), (69, .one .top (.bool q))], [B2], H⟩ : St)) h22) ?_
  refine o_run 5 ⟨[E1, E3, E6, E7, E8, E11, E12, E53, E54, E55, E56, E57, E58, E59, E60, E61, E62, E63, E64, E65, E66, E67, E68, E69, E70, E71, E72, E73, E74, E75, E76, E77, E78, E79, E80, E118, E119, E30, E31, E32, E86, E87, E88, E89, E90, E91, E92, E93, E98, E99, E100, E101, E102, E105, E106, E107, E108, E109, E110, E111], [B2], H⟩ (by kernel_rfl) (by kernel_rfl) ?_
  refine o_eq2 (congrArg (fun q0 => (⟨[E1, E3, (74, .one .top (.bool q0))], [B2], H⟩ : St)) (show (p0.C_ != 0) = ((decide (p0.A_ < 0)) || ((decide (p0.A_ > 15)) || ((decide (p0.B_ < 0)) || ((decide (p0.B_ > 15)) || ((decide (p0.C_ < 0)) || ((decide (p0.C_ > 15)) || (if (!r4) = true then ((p0.A_ != 0) || (if (!r5) = true then ((p0.B_ != 0) || ((!r6) && (p0.C_ != 0))) else ((!r6) && (p0.C_ != 0)))) else (if (!r5) = true then ((p0.B_ != 0) || ((!r6) && (p0.C_ != 0))) else ((!r6) && (p0.C_ != 0)))))))))) by simp [h8, h9, h10, h11, h12, h13, h14, h20, h21, h22])) ?_
  exact o_end (by kernel_rfl) (by kernel_rfl)
  refine o_eq (congrArg (fun q => (⟨[E1, E3, E6, E7, E8, E11, E12, E53, E54, E55, E56, E57, E58, E59, E60, E61, E62, E63, E64, E65, E66, E67, E68, E69, E70, E71, E72, E73, E74, E75, E76, E77, E78, E79, E80, E118, E119, E30, E31, E32, E86, E87, E88, E89, E90, E91, E92, E93, E98, E99, E100, E101, E102, (68, .one .top (.bool q)), (69, .one .top (.bool q))], [B2], H⟩ : St)) h22) ?_
  refine o_run 5 ⟨[E1, E3, E6, E7, E8, E11, E12, E53, E54, E55, E56, E57, E58, E59, E60, E61, E62, E63, E64, E65, E66, E67, E68, E69, E70, E71, E72, E73, E74, E75, E76, E77, E78, E79, E80, E118, E119, E30, E31, E32, E86, E87, E88, E89, E90, E91, E92, E93, E98, E99, E100, E101, E102, E112, E113, E48, E49, E50, E114, E115], [B2], H⟩ (by kernel_rfl) (by kernel_rfl) ?_
  refine o_eq2 (congrArg (fun q0 => (⟨[E1, E3, (74, .one .top (.bool q0))], [B2], H⟩ : St)) (show false = ((decide (p0.A_ < 0)) || ((decide (p0.A_ > 15)) || ((decide (p0.B_ < 0)) || ((decide (p0.B_ > 15)) || ((decide (p0.C_ < 0)) || ((decide (p0.C_ > 15)) || (if (!r4) = true then ((p0.A_ != 0) || (if (!r5) = true then ((p0.B_ != 0) || ((!r6) && (p0.C_ != 0))) else ((!r6) && (p0.C_ != 0)))) else (if (!r5) = true then ((p0.B_ != 0) || ((!r6) && (p0.C_ != 0))) else ((!r6) && (p0.C_ != 0)))))))))) by simp [h8, h9, h10, h11, h12, h13, h14, h20, h21, h22])) ?_
  exact o_end (by kernel_rfl) (by kernel_rfl)
  refine o_eq (congrArg (fun q => (⟨[E1, E3, E6, E7, E8, E11, E12, E53, E54, E55, E56, E57, E58, E59, E60, E61, E62, E63, E64, E65, E66, E67, E68, E69, E70, E71, E72, E73, E74, E75, E76, E77, E78, E79, E80, E118, E119, E30, E31, E32, E86, E87, E88, E89, (59, .one .top (.bool q)), (60, .one .top (.bool q))], [B2], H⟩ : St)) h20) ?_
  refine o_run 9 ⟨[E1, E3, E6, E7, E8, E11, E12, E53, E54, E55, E56, E57, E58, E59, E60, E61, E62, E63, E64, E65, E66, E67, E68, E69, E70, E71, E72, E73, E74, E75, E76, E77, E78, E79, E80, E118, E119, E30, E31, E32, E86, E87, E88, E89, E116, E117, E39, E40, E41, E99, E100, E101, E102, E103, E104], [B2], H⟩ (by kernel_rfl) (by kernel_rfl) ?_
  rcases bool_cases (!r6) with h23 | h23
  refine o_eq (congrArg (fun q => (⟨[E1, E3, E6, E7, E8, E11, E12, E53, E54, E55, E56, E57, E58, E59, E60, E61, E62, E63, E64, E65, E66, E67, E68, E69, E70, E71, E72, E73, E74, E75, E76, E77, E78, E79, E80, E118, E119, E30, E31, E32, E86, E87, E88, E89, E116, E117, E39, E40, E41, E99, E100, E101, E102, (68, .one .top (.bool q)), (69, .one .top (.bool q))], [B2], H⟩ : St)) h23) ?_
  refine o_run 5 ⟨[E1, E3, E6, E7, E8, E11, E12, E53, E54, E55, E56, E57, E58, E59, E60, E61, E62, E63, E64, E65, E66, E67, E68, E69, E70, E71, E72, E73, E74, E75, E76, E77, E78, E79, E80, E118, E119, E30, E31, E32, E86, E87, E88, E89, E116, E117, E39, E40, E41, E99, E100, E101, E102, E105, E106, E107, E108, E109, E110, E111], [B2], H⟩ (by kernel_rfl) (by kernel_rfl) ?_
  refine o_eq2 (congrArg (fun q0 => (⟨[E1, E3, (74, .one .top (.bool q0))], [B2], H⟩ : St)) (show (p0.C_ != 0) = ((decide (p0.A_ < 0)) || ((decide (p0.A_ > 15)) || ((decide (p0.B_ < 0)) || ((decide (p0.B_ > 15)) || ((decide (p0.C_ < 0)) || ((decide (p0.C_ > 15)) || (if (!r4) = true then ((p0.A_ != 0) || (if (!r5) = true then ((p0.B_ != 0) || ((!r6) && (p0.C_ != 0))) else ((!r6) && (p0.C_ != 0)))) else (if (!r5) = true then ((p0.B_ != 0) || ((!r6) && (p0.C_ != 0))) else ((!r6) && (p0.C_ != 0)))))))))) by simp [h8, h9, h10, h11, h12, h13, h14, h20, h23])) ?_
  exact o_end (by kernel_rfl) (by kernel_rfl)
  refine o_eq (congrArg (fun q => (⟨[E1, E3, E6, E7, E8, E11, E12, E53, E54, E55, E56, E57, E58, E59, E60, E61, E62, E63, E64, E65, E66, E67, E68, E69, E70, E71, E72, E73, E74, E75, E76, E77, E78, E79, E80, E118, E119, E30, E31, E32, E86, E87, E88, E89, E116, E117, E39, E40, E41, E99, E100, E101, E102, (68, .one .top (.bool q)), (69, .one .top (.bool q))], [B2], H⟩ : St)) h23) ?_
  refine o_run 5 ⟨[E1, E3, E6, E7, E8, E11, E12, E53, E54, E55, E56, E57, E58, E59, E60, E61, E62, E63, E64, E65, E66, E67, E68, E69, E70, E71, E72, E73, E74, E75, E76, E77, E78, E79, E80, E118, E119, E30, E31, E32, E86, E87, E88, E89, E116, E117, E39, E40, E41, E99, E100, E101, E102, E112, E113, E48, E49, E50, E114, E115], [B2], H⟩ (by kernel_rfl) (by kernel_rfl) ?_
  refine o_eq2 (congrArg (fun q0 => (⟨[E1, E3, (74, .one .top (.bool q0))], [B2], H⟩ : St)) (show false = ((decide (p0.A_ < 0)) || ((decide (p0.A_ > 15)) || ((decide (p0.B_ < 0)) || ((decide (p0.B_ > 15)) || ((decide (p0.C_ < 0)) || ((decide (p0.C_ > 15)) || (if (!r4) = true then ((p0.A_ != 0) || (if (!r5) = true then ((p0.B_ != 0) || ((!r6) && (p0.C_ != 0))) else ((!r6) && (p0.C_ != 0)))) else (if (!r5) = true then ((p0.B_ != 0) || ((!r6) && (p0.C_ != 0))) else ((!r6) && (p0.C_ != 0)))))))))) by simp [h8, h9, h10, h11, h12, h13, h14, h20, h23])) ?_
  exact o_end (by kernel_rfl) (by kernel_rfl)
  rcases if_inv hF with ⟨h24, hF⟩ | ⟨h24, hF⟩
  refine w_cT (m := .top) h24 (s1 := S134) (by kernel_rfl) (by kernel_rfl) ?_
  refine w_seq ?_
  refine w_reg S136 (by kernel_rfl) ?_
  refine w_ret ?_
  obtain e0 := some1_inv hF
  subst e0
  exact fin_pure (v := .one .top (.int .i64 20)) (by kernel_rfl) (by kernel_rfl) rfl (by kernel_rfl)
  refine w_cF (m := .top) h24 (s1 := S132) (by kernel_rfl) (by kernel_rfl) ?_
  refine w_skip ?_
  refine w_seq ?_
  refine w_reg ⟨[E1, E3, E120, E121], [B2], H⟩ (by kernel_rfl) ?_
  refine w_seq ?_
  refine w_seq ?_
  refine w_reg S137 (by kernel_rfl) ?_
  refine w_block ?_
  refine w_seq ?_
  refine w_seq ?_
  refine w_reg S138 (by kernel_rfl) ?_
  refine w_join (α := (Bool)) (fun x => (⟨[E1, E120, E121, E122, (76, .one .top (.bool x))], [B2], H⟩ : St)) (fun x => ref02_Check_j1 p0 r1 x = some ra) ?_ ?_
  rintro j25 hF
  replace hF : ref02_Check_j1 p0 r1 j25 = some ra := hF
  unfold ref02_Check_j1 at hF
  refine w_join (α := (Int × Int)) (fun x => (⟨[E1, (7, .one .top (.int .i64 x.1)), (8, .one .top (.int .i64 x.2))], [B2], H⟩ : St)) (fun x => ref02_Check_j2 p0 x.1 x.2 = some ra) ?_ ?_
  rintro ⟨j26, j27⟩ hF
  replace hF : ref02_Check_j2 p0 j26 j27 = some ra := hF
  let E124 : Nat × TV := (7, .one .top (.int .i64 j26))
  let E125 : Nat × TV := (8, .one .top (.int .i64 j27))
  let E128 : Nat × TV := (87, .one .top (.int .i64 j26))
  unfold ref02_Check_j2 at hF
  refine w_seq ?_
  refine w_seq ?_
  refine w_regO ⟨[(94, .one .top (.bool ((decide (p0.Imm_ < j26)) || (decide (p0.Imm_ > j27)))))], [], H⟩ ?_ ?_
  refine o_run 5 ⟨[E1, E124, E125, E126, E127, E128, (88, .one .top (.bool (decide (p0.Imm_ < j26)))), (89, .one .top (.bool (decide (p0.Imm_ < j26))))], [B2], H⟩ (by kernel_rfl) (by kernel_rfl) ?_
  rcases bool_cases (decide (p0.Imm_ < j26)) with h28 | h28
  refine o_eq (congrArg (fun q => (⟨[E1, E124, E125, E126, E127, E128, (88, .one .top (.bool q)), (89, .one .top (.bool q))], [B2], H⟩ : St)) h28) ?_
  refine o_run 5 ⟨[E1, E124, E125, E126, E127, E128, (88, .one .top (.bool true)), (89, .one .top (.bool true)), (90, .tup []), (91, .tup []), (92, .tup []), (93, .tup []), (94, .one .top (.bool true))], [B2], H⟩ (by kernel_rfl) (by kernel_rfl) ?_
  refine o_eq2 (congrArg (fun q0 => (⟨[(94, .one .top (.bool q0))], [], H⟩ : St)) (show true = ((decide (p0.Imm_ < j26)) || (decide (p0.Imm_ > j27))) by simp [h28])) ?_
  exact o_end (by kernel_rfl) (by kernel_rfl)
  refine o_eq (congrArg (fun q => (⟨[E1, E124, E125, E126, E127, E128, (88, .one .top (.bool q)), (89, .one .top (.bool q))], [B2], H⟩ : St)) h28) ?_
  refine o_run 5 ⟨[E1, E124, E125, E126, E127, E128, (88, .one .top (.bool false)), (89, .one .top (.bool false)), (90, .one .top (.loc 1 4)), (91, .one .top (.int .i64 p0.Imm_)), (92, .one .top (.int .i64 j27)), (93, .one .top (.bool (decide (p0.Imm_ > j27)))), (94, .one .top (.bool (decide (p0.Imm_ > j27))))], [B2], H⟩ (by kernel_rfl) (by kernel_rfl) ?_
  refine o_eq2 (congrArg (fun q0 => (⟨[(94, .one .top (.bool q0))], [], H⟩ : St)) (show (decide (p0.Imm_ > j27)) = ((decide (p0.Imm_ < j26)) || (decide (p0.Imm_ > j27))) by simp [h28])) ?_
  exact o_end (by kernel_rfl) (by kernel_rfl)
  rcases if_inv hF with ⟨h29, hF⟩ | ⟨h29, hF⟩
  refine w_cT (m := .top) h29 (s1 := S134) (by kernel_rfl) (by kernel_rfl) ?_
  refine w_seq ?_
  refine w_reg S136 (by kernel_rfl) ?_
  refine w_ret ?_
  obtain e0 := some1_inv hF
  subst e0
  exact fin_pure (v := .one .top (.int .i64 20)) (by kernel_rfl) (by kernel_rfl) rfl (by kernel_rfl)
  refine w_cF (m := .top) h29 (s1 := S134) (by kernel_rfl) (by kernel_rfl) ?_
  refine w_skip ?_
  refine w_seq ?_
  refine w_reg ⟨[(2, .one .top (.int .i64 0))], [], H⟩ (by kernel_rfl) ?_
  refine w_ret ?_
  obtain e0 := some1_inv hF
  subst e0
  exact fin_pure (v := .one .top (.int .i64 0)) (by kernel_rfl) (by kernel_rfl) rfl (by kernel_rfl)
  rcases if_inv hF with ⟨h30, hF⟩ | ⟨h30, hF⟩
  refine w_cT (m := .top) h30 (s1 := S131) (by kernel_rfl) (by kernel_rfl) ?_
  refine w_reg ⟨[E1, (7, .one .top (.int .i64 (-32768))), (8, .one .top (.int .i64 32767))], [B2], H⟩ (by kernel_rfl) ?_
  exact ⟨(-32768, 32767), hF, (by kernel_rfl)⟩
  refine w_cF (m := .top) h30 (s1 := S137) (by kernel_rfl) (by kernel_rfl) ?_
  refine w_seq ?_
  refine w_seq ?_
  refine w_reg S139 (by kernel_rfl) ?_
  refine w_join (α := (Bool)) (fun x => (⟨[E1, E120, E121, E122, (79, .one .top (.bool x))], [B2], H⟩ : St)) (fun x => ref02_Check_j3 p0 r1 x = some ra) ?_ ?_
  rintro j31 hF
  replace hF : ref02_Check_j3 p0 r1 j31 = some ra := hF
  unfold ref02_Check_j3 at hF
  refine w_join (α := (Int × Int)) (fun x => (⟨[E1, (7, .one .top (.int .i64 x.1)), (8, .one .top (.int .i64 x.2))], [B2], H⟩ : St)) (fun x => ref02_Check_j4 p0 x.1 x.2 = some ra) ?_ ?_
  rintro ⟨j32, j33⟩ hF
  replace hF : ref02_Check_j4 p0 j32 j33 = some ra := hF
  unfold ref02_Check_j4 at hF
  exact ⟨(j32, j33), hF, (by kernel_rfl)⟩
  rcases if_inv hF with ⟨h34, hF⟩ | ⟨h34, hF⟩
  refine w_cT (m := .top) h34 (s1 := (⟨[E1, E120], [B2], H⟩ : St)) (by kernel_rfl) (by kernel_rfl) ?_
  refine w_reg ⟨[E1, E120, (8, .one .top (.int .i64 65535))], [B2], H⟩ (by kernel_rfl) ?_
  exact ⟨(0, 65535), hF, (by kernel_rfl)⟩
  refine w_cF (m := .top) h34 (s1 := S137) (by kernel_rfl) (by kernel_rfl) ?_
  refine w_seq ?_
  refine w_reg ⟨[E1, E120, E121, (83, .one .top (.bool (r1 == 7)))], [B2], H⟩ (by kernel_rfl) ?_
  refine w_join (α := (Int × Int)) (fun x => (⟨[E1, (7, .one .top (.int .i64 x.1)), (8, .one .top (.int .i64 x.2))], [B2], H⟩ : St)) (fun x => ref02_Check_j5 p0 x.1 x.2 = some ra) ?_ ?_
  rintro ⟨j35, j36⟩ hF
  replace hF : ref02_Check_j5 p0 j35 j36 = some ra := hF
  unfold ref02_Check_j5 at hF
  exact ⟨(j35, j36), hF, (by kernel_rfl)⟩
  rcases if_inv hF with ⟨h37, hF⟩ | ⟨h37, hF⟩
  refine w_cT (m := .top) h37 (s1 := S131) (by kernel_rfl) (by kernel_rfl) ?_
  refine w_reg ⟨[E1, (7, .one .top (.int .i64 (-8388608))), (8, .one .top (.int .i64 8388607))], [B2], H⟩ (by kernel_rfl) ?_
  exact ⟨(-8388608, 8388607), hF, (by kernel_rfl)⟩
  refine w_cF (m := .top) h37 (s1 := (⟨[E1, E120, E121], [B2], H⟩ : St)) (by kernel_rfl) (by kernel_rfl) ?_
  refine w_skip ?_
  exact ⟨(0, 0), hF, (by kernel_rfl)⟩
  rcases if_inv hF with ⟨h38, hF⟩ | ⟨h38, hF⟩
  refine w_cT (m := .top) h38 (s1 := S139) (by kernel_rfl) (by kernel_rfl) ?_
  refine w_skip ?_
  exact ⟨(r1 == 2), hF, (by kernel_rfl)⟩
  refine w_cF (m := .top) h38 (s1 := S137) (by kernel_rfl) (by kernel_rfl) ?_
  refine w_seq ?_
  refine w_reg S140 (by kernel_rfl) ?_
  refine w_join (α := (Bool)) (fun x => (⟨[E1, E120, E121, E122, (79, .one .top (.bool x))], [B2], H⟩ : St)) (fun x => ref02_Check_j6 p0 r1 x = some ra) ?_ ?_
  rintro j39 hF
  replace hF : ref02_Check_j6 p0 r1 j39 = some ra := hF
  unfold ref02_Check_j6 at hF
  exact ⟨j39, hF, (by kernel_rfl)⟩
  rcases if_inv hF with ⟨h40, hF⟩ | ⟨h40, hF⟩
  refine w_cT (m := .top) h40 (s1 := S140) (by kernel_rfl) (by kernel_rfl) ?_
  refine w_skip ?_
  exact ⟨(r1 == 4), hF, (by kernel_rfl)⟩
  refine w_cF (m := .top) h40 (s1 := S137) (by kernel_rfl) (by kernel_rfl) ?_
  refine w_reg ⟨[E1, E120, E121, E122, (79, .one .top (.bool (r1 == 8)))], [B2], H⟩ (by kernel_rfl) ?_
  exact ⟨(r1 == 8), hF, (by kernel_rfl)⟩
  rcases if_inv hF with ⟨h41, hF⟩ | ⟨h41, hF⟩
  refine w_cT (m := .top) h41 (s1 := S138) (by kernel_rfl) (by kernel_rfl) ?_
  refine w_skip ?_
  exact ⟨(r1 == 1), hF, (by kernel_rfl)⟩
  refine w_cF (m := .top) h41 (s1 := S137) (by kernel_rfl) (by kernel_rfl) ?_
  refine w_reg ⟨[E1, E120, E121, E122, (76, .one .top (.bool (r1 == 3)))], [B2], H⟩ (by kernel_rfl) ?_
  exact ⟨(r1 == 3), hF, (by kernel_rfl)⟩
noncomputable def ref02_Encode  (p0 : T_ref02_Instr) : Option (Int × Int) :=
  bind1 (ref02_Check p0) fun r1 =>
  if (r1 != 0) = true then (some (0, r1))
  else (bind1 (ref02_Shape p0.Op_) fun r4 =>
  if (r4 == 7) = true then (some ((IntKind.wrap .u32 (IntKind.wrap .i64 ((IntKind.wrap .i64 (p0.Op_ * 16777216)) + (Int.tmod (IntKind.wrap .i64 (p0.Imm_ + 16777216)) 16777216)))), 0))
  else (some ((IntKind.wrap .u32 (IntKind.wrap .i64 ((IntKind.wrap .i64 ((IntKind.wrap .i64 ((IntKind.wrap .i64 ((IntKind.wrap .i64 (p0.Op_ * 16777216)) + (IntKind.wrap .i64 (p0.A_ * 1048576)))) + (IntKind.wrap .i64 (p0.B_ * 65536)))) + (Int.tmod (IntKind.wrap .i64 (p0.Imm_ + 65536)) 65536))) + p0.C_))), 0)))
theorem ok_ref02_Encode (H : Heap) {p0 : T_ref02_Instr} {ra : Int} {rb : Int} (hF : ref02_Encode p0 = some (ra, rb)) : evS X 81 [.agg (m0_ref02_Instr p0)] H = some (.tup [.one .top (.int .u32 ra), .one .top (.int .i64 rb)], H) := by
  let E1 : Nat × TV := (1, .one .top (.loc 1 0))
  let B2 : Nat × List MC := (1, (m0_ref02_Instr p0))
  let E4 : Nat × TV := (6, .agg (m0_ref02_Instr p0))
  let E5 : Nat × TV := (5, .one .top (.int .i64 (IntKind.wrap .i64 (p0.Op_ * 16777216))))
  let E7 : Nat × TV := (14, .one .top (.loc 1 0))
  let E8 : Nat × TV := (15, .one .top (.int .i64 p0.Op_))
  let S9 : St := ⟨[E1, E5], [B2], H⟩
  let S10 : St := ⟨[E1, E5, E7, E8], [B2], H⟩
  refine w_fun Try.func81 rfl (by kernel_rfl) true (by kernel_rfl) (s0 := (⟨[(0, .agg (m0_ref02_Instr p0))], [], H⟩ : St)) (by kernel_rfl) ?_
  unfold ref02_Encode at hF
  refine w_seq ?_
  refine w_reg ⟨[E1], [B2], H⟩ (by kernel_rfl) ?_
  refine w_seq ?_
  refine w_seq ?_
  obtain ⟨r1, c2, hF⟩ := bind1_inv hF
  let E3 : Nat × TV := (4, .one .top (.int .i64 r1))
  refine w_regO ⟨[E1, E3], [B2], H⟩ ?_ ?_
  refine o_run 1 ⟨[E1, E4], [B2], H⟩ (by kernel_rfl) (by kernel_rfl) ?_
  refine o_one ⟨[E1, E4, (7, .one .top (.int .i64 r1))], [B2], H⟩ (st_call (d := (some 7)) (fz := false) (pure := true) (own := false) (⟨[E1, E4], [B2], H⟩ : St) (ok_ref02_Check H c2) (by kernel_rfl) (by kernel_rfl)) ?_
  refine o_run 1 ⟨[E1, E3, E4, (7, .one .top (.int .i64 r1))], [B2], H⟩ (by kernel_rfl) (by kernel_rfl) ?_
  exact o_end (by kernel_rfl) (by kernel_rfl)
  refine w_seq ?_
  refine w_reg ⟨[E1, E3, (9, .one .top (.bool (r1 != 0)))], [B2], H⟩ (by kernel_rfl) ?_
  rcases if_inv hF with ⟨h3, hF⟩ | ⟨h3, hF⟩
  refine w_cT (m := .top) h3 (s1 := (⟨[E3], [], H⟩ : St)) (by kernel_rfl) (by kernel_rfl) ?_
  refine w_seq ?_
  refine w_reg ⟨[(2, .one .top (.int .u32 0)), (3, .one .top (.int .i64 r1))], [], H⟩ (by kernel_rfl) ?_
  refine w_ret ?_
  obtain ⟨e0, e1⟩ := some2_inv hF
  subst e0
  subst e1
  exact fin_pure (v := .tup [.one .top (.int .u32 0), .one .top (.int .i64 r1)]) (by kernel_rfl) (by kernel_rfl) rfl (by kernel_rfl)
  refine w_cF (m := .top) h3 (s1 := (⟨[E1], [B2], H⟩ : St)) (by kernel_rfl) (by kernel_rfl) ?_
  refine w_skip ?_
  refine w_seq ?_
  refine w_reg S9 (by kernel_rfl) ?_
  refine w_seq ?_
  refine w_seq ?_
  obtain ⟨r4, c5, hF⟩ := bind1_inv hF
  let E6 : Nat × TV := (17, .one .top (.bool (r4 == 7)))
  refine w_regO ⟨[E1, E5, E6], [B2], H⟩ ?_ ?_
  refine o_run 2 S10 (by kernel_rfl) (by kernel_rfl) ?_
  refine o_one ⟨[E1, E5, E7, E8, (16, .one .top (.int .i64 r4))], [B2], H⟩ (st_call (d := (some 16)) (fz := false) (pure := true) (own := false) S10 (ok_ref02_Shape H c5) (by kernel_rfl) (by kernel_rfl)) ?_
  refine o_run 1 ⟨[E1, E5, E7, E8, (16, .one .top (.int .i64 r4)), E6], [B2], H⟩ (by kernel_rfl) (by kernel_rfl) ?_
  exact o_end (by kernel_rfl) (by kernel_rfl)
  rcases if_inv hF with ⟨h6, hF⟩ | ⟨h6, hF⟩
  refine w_cT (m := .top) h6 (s1 := S9) (by kernel_rfl) (by kernel_rfl) ?_
  refine w_seq ?_
  refine w_reg ⟨[(2, .one .top (.int .u32 (IntKind.wrap .u32 (IntKind.wrap .i64 ((IntKind.wrap .i64 (p0.Op_ * 16777216)) + (Int.tmod (IntKind.wrap .i64 (p0.Imm_ + 16777216)) 16777216)))))), (3, .one .top (.int .i64 0))], [], H⟩ (by kernel_rfl) ?_
  refine w_ret ?_
  obtain ⟨e0, e1⟩ := some2_inv hF
  subst e0
  subst e1
  exact fin_pure (v := .tup [.one .top (.int .u32 (IntKind.wrap .u32 (IntKind.wrap .i64 ((IntKind.wrap .i64 (p0.Op_ * 16777216)) + (Int.tmod (IntKind.wrap .i64 (p0.Imm_ + 16777216)) 16777216))))), .one .top (.int .i64 0)]) (by kernel_rfl) (by kernel_rfl) rfl (by kernel_rfl)
  refine w_cF (m := .top) h6 (s1 := S9) (by kernel_rfl) (by kernel_rfl) ?_
  refine w_skip ?_
  refine w_seq ?_
  refine w_reg ⟨[(2, .one .top (.int .u32 (IntKind.wrap .u32 (IntKind.wrap .i64 ((IntKind.wrap .i64 ((IntKind.wrap .i64 ((IntKind.wrap .i64 ((IntKind.wrap .i64 (p0.Op_ * 16777216)) + (IntKind.wrap .i64 (p0.A_ * 1048576)))) + (IntKind.wrap .i64 (p0.B_ * 65536)))) + (Int.tmod (IntKind.wrap .i64 (p0.Imm_ + 65536)) 65536))) + p0.C_))))), (3, .one .top (.int .i64 0))], [], H⟩ (by kernel_rfl) ?_
  refine w_ret ?_
  obtain ⟨e0, e1⟩ := some2_inv hF
  subst e0
  subst e1
  exact fin_pure (v := .tup [.one .top (.int .u32 (IntKind.wrap .u32 (IntKind.wrap .i64 ((IntKind.wrap .i64 ((IntKind.wrap .i64 ((IntKind.wrap .i64 ((IntKind.wrap .i64 (p0.Op_ * 16777216)) + (IntKind.wrap .i64 (p0.A_ * 1048576)))) + (IntKind.wrap .i64 (p0.B_ * 65536)))) + (Int.tmod (IntKind.wrap .i64 (p0.Imm_ + 65536)) 65536))) + p0.C_)))), .one .top (.int .i64 0)]) (by kernel_rfl) (by kernel_rfl) rfl (by kernel_rfl)
noncomputable def ref02_Decode_j5 (p0 : Int) (j11 : T_ref02_Instr) : Option (T_ref02_Instr × Int) :=
  bind2 (ref02_Encode j11) fun r12 r13 =>
  if ((r13 != 0) || (r12 != p0)) = true then (some ((T_ref02_Instr.mk 0 0 0 0 0), 21))
  else (some (j11, 0))
noncomputable def ref02_Decode_j7 (p0 : Int) (j21 : T_ref02_Instr) : Option (T_ref02_Instr × Int) :=
  ref02_Decode_j5 p0 j21
noncomputable def ref02_Decode_j8 (p0 : Int) (j23 : T_ref02_Instr) : Option (T_ref02_Instr × Int) :=
  ref02_Decode_j7 p0 j23
noncomputable def ref02_Decode_j6 (p0 : Int) (j9 : T_ref02_Instr) (r1 : Int) (j20 : Bool) : Option (T_ref02_Instr × Int) :=
  if j20 = true then (ref02_Decode_j7 p0 (T_ref02_Instr.mk j9.Op_ j9.A_ j9.B_ j9.C_ (IntKind.wrap .i64 (Int.tmod p0 65536))))
  else (if (r1 == 7) = true then (bind1 (ref01_Sext p0 24) fun r25 =>
  ref02_Decode_j8 p0 (T_ref02_Instr.mk j9.Op_ j9.A_ j9.B_ j9.C_ (IntKind.wrap .i64 r25)))
  else (ref02_Decode_j8 p0 j9))
noncomputable def ref02_Decode_j9 (p0 : Int) (j9 : T_ref02_Instr) (r1 : Int) (j28 : Bool) : Option (T_ref02_Instr × Int) :=
  ref02_Decode_j6 p0 j9 r1 j28
noncomputable def ref02_Decode_j4 (p0 : Int) (j9 : T_ref02_Instr) (r1 : Int) (j10 : Bool) : Option (T_ref02_Instr × Int) :=
  if j10 = true then (bind1 (ref01_Sext p0 16) fun r18 =>
  ref02_Decode_j5 p0 (T_ref02_Instr.mk j9.Op_ j9.A_ j9.B_ j9.C_ (IntKind.wrap .i64 r18)))
  else (if (r1 == 2) = true then (ref02_Decode_j6 p0 j9 r1 (r1 == 2))
  else (if (r1 == 4) = true then (ref02_Decode_j9 p0 j9 r1 (r1 == 4))
  else (ref02_Decode_j9 p0 j9 r1 (r1 == 8))))
noncomputable def ref02_Decode_j3 (r1 : Int) (p0 : Int) (j9 : T_ref02_Instr) : Option (T_ref02_Instr × Int) :=
  if (r1 == 1) = true then (ref02_Decode_j4 p0 j9 r1 (r1 == 1))
  else (ref02_Decode_j4 p0 j9 r1 (r1 == 3))
noncomputable def ref02_Decode_j2 (r5 : Bool) (r1 : Int) (p0 : Int) (j8 : T_ref02_Instr) : Option (T_ref02_Instr × Int) :=
  if r5 = true then (ref02_Decode_j3 r1 p0 (T_ref02_Instr.mk j8.Op_ j8.A_ j8.B_ (IntKind.wrap .i64 (Int.tmod p0 16)) j8.Imm_))
  else (ref02_Decode_j3 r1 p0 j8)
noncomputable def ref02_Decode_j1 (r4 : Bool) (r5 : Bool) (r1 : Int) (p0 : Int) (j7 : T_ref02_Instr) : Option (T_ref02_Instr × Int) :=
  if r4 = true then (ref02_Decode_j2 r5 r1 p0 (T_ref02_Instr.mk j7.Op_ j7.A_ (IntKind.wrap .i64 (Int.tmod (IntKind.wrap .u32 (Int.tdiv p0 65536)) 16)) j7.C_ j7.Imm_))
  else (ref02_Decode_j2 r5 r1 p0 j7)
noncomputable def ref02_Decode  (p0 : Int) : Option (T_ref02_Instr × Int) :=
  bind1 (ref02_Shape (IntKind.wrap .i64 (IntKind.wrap .u32 (Int.tdiv p0 16777216)))) fun r1 =>
  bind3 (ref02_has r1) fun r3 r4 r5 =>
  if r3 = true then (ref02_Decode_j1 r4 r5 r1 p0 (T_ref02_Instr.mk (IntKind.wrap .i64 (IntKind.wrap .u32 (Int.tdiv p0 16777216))) (IntKind.wrap .i64 (Int.tmod (IntKind.wrap .u32 (Int.tdiv p0 1048576)) 16)) 0 0 0))
  else (ref02_Decode_j1 r4 r5 r1 p0 (T_ref02_Instr.mk (IntKind.wrap .i64 (IntKind.wrap .u32 (Int.tdiv p0 16777216))) 0 0 0 0))
theorem ok_ref02_Decode (H : Heap) {p0 : Int} {ra : T_ref02_Instr} {rb : Int} (hF : ref02_Decode p0 = some (ra, rb)) : evS X 52 [.one .top (.int .u32 p0)] H = some (.tup [.agg [(.top, .int .i64 ra.Op_), (.top, .int .i64 ra.A_), (.top, .int .i64 ra.B_), (.top, .int .i64 ra.C_), (.top, .int .i64 ra.Imm_)], .one .top (.int .i64 rb)], H) := by
  let E1 : Nat × TV := (0, .one .top (.int .u32 p0))
  let E2 : Nat × TV := (2, .one .top (.loc 2 0))
  let B3 : Nat × List MC := (2, [(.top, .int .i64 0), (.top, .int .i64 0), (.top, .int .i64 0), (.top, .int .i64 0), (.top, .int .i64 0)])
  let E4 : Nat × TV := (4, .one .top (.loc 4 0))
  let B5 : Nat × List MC := (4, [(.top, .int .i64 (IntKind.wrap .i64 (IntKind.wrap .u32 (Int.tdiv p0 16777216)))), (.top, .int .i64 0), (.top, .int .i64 0), (.top, .int .i64 0), (.top, .int .i64 0)])
  let E7 : Nat × TV := (15, .one .top (.loc 4 0))
  let E8 : Nat × TV := (16, .one .top (.int .i64 (IntKind.wrap .i64 (IntKind.wrap .u32 (Int.tdiv p0 16777216)))))
  let E25 : Nat × TV := (45, .one .top (.int .u32 p0))
  let E28 : Nat × TV := (59, .one .top (.int .u32 p0))
  let S30 : St := ⟨[E1, E2, E4, E7, E8], [B3, B5], H⟩
  refine w_fun Try.func52 rfl (by kernel_rfl) true (by kernel_rfl) (s0 := (⟨[E1], [], H⟩ : St)) (by kernel_rfl) ?_
  unfold ref02_Decode at hF
  refine w_seq ?_
  refine w_reg ⟨[E1, E2], [B3], H⟩ (by kernel_rfl) ?_
  refine w_seq ?_
  refine w_reg ⟨[E1, E2, E4], [B3, B5], H⟩ (by kernel_rfl) ?_
  refine w_seq ?_
  obtain ⟨r1, c2, hF⟩ := bind1_inv hF
  let E6 : Nat × TV := (5, .one .top (.int .i64 r1))
  let E11 : Nat × TV := (19, .one .top (.int .i64 r1))
  let E15 : Nat × TV := (41, .one .top (.int .i64 r1))
  let E17 : Nat × TV := (42, .one .top (.bool (r1 == 1)))
  let E26 : Nat × TV := (49, .one .top (.bool (r1 == 2)))
  let E29 : Nat × TV := (49, .one .top (.bool (r1 == 4)))
  let S31 : St := ⟨[E1, E2, E4, E6, E11], [B3, B5], H⟩
  refine w_regO ⟨[E1, E2, E4, E6], [B3, B5], H⟩ ?_ ?_
  refine o_run 2 S30 (by kernel_rfl) (by kernel_rfl) ?_
  refine o_one ⟨[E1, E2, E4, E7, E8, (17, .one .top (.int .i64 r1))], [B3, B5], H⟩ (st_call (d := (some 17)) (fz := false) (pure := true) (own := false) S30 (ok_ref02_Shape H c2) (by kernel_rfl) (by kernel_rfl)) ?_
  refine o_run 1 ⟨[E1, E2, E4, E6, E7, E8, (17, .one .top (.int .i64 r1))], [B3, B5], H⟩ (by kernel_rfl) (by kernel_rfl) ?_
  exact o_end (by kernel_rfl) (by kernel_rfl)
  refine w_seq ?_
  obtain ⟨r3, r4, r5, c6, hF⟩ := bind3_inv hF
  let E9 : Nat × TV := (7, .one .top (.bool r4))
  let E10 : Nat × TV := (8, .one .top (.bool r5))
  let E12 : Nat × TV := (20, .tup [.one .top (.bool r3), .one .top (.bool r4), .one .top (.bool r5)])
  let S42 : St := ⟨[E1, E2, E4, E6, E9, E10], [B3, B5], H⟩
  refine w_regO ⟨[E1, E2, E4, E6, (6, .one .top (.bool r3)), E9, E10], [B3, B5], H⟩ ?_ ?_
  refine o_run 1 S31 (by kernel_rfl) (by kernel_rfl) ?_
  refine o_one ⟨[E1, E2, E4, E6, E11, E12], [B3, B5], H⟩ (st_call (d := (some 20)) (fz := false) (pure := true) (own := false) S31 (ok_ref02_has H c6) (by kernel_rfl) (by kernel_rfl)) ?_
  refine o_run 7 ⟨[E1, E2, E4, E6, (6, .one .top (.bool r3)), E9, E10, (18, .tup [.one .top (.bool r3), .one .top (.bool r4), .one .top (.bool r5)]), E11, E12, (21, .one .top (.bool r3)), (22, .one .top (.bool r4)), (23, .one .top (.bool r5))], [B3, B5], H⟩ (by kernel_rfl) (by kernel_rfl) ?_
  exact o_end (by kernel_rfl) (by kernel_rfl)
  refine w_seq ?_
  refine w_seq ?_
  refine w_reg ⟨[E1, E2, E4, E6, E9, E10, (24, .one .top (.bool r3))], [B3, B5], H⟩ (by kernel_rfl) ?_
  refine w_join (α := (T_ref02_Instr)) (fun x => (⟨[E1, E2, E4, E6, E9, E10], [B3, (4, (m0_ref02_Instr x))], H⟩ : St)) (fun x => ref02_Decode_j1 r4 r5 r1 p0 x = some (ra, rb)) ?_ ?_
  rintro j7 hF
  replace hF : ref02_Decode_j1 r4 r5 r1 p0 j7 = some (ra, rb) := hF
  let B13 : Nat × List MC := (4, (m0_ref02_Instr j7))
  let S41 : St := ⟨[E1, E2, E4, E6, E10], [B3, B13], H⟩
  unfold ref02_Decode_j1 at hF
  refine w_seq ?_
  refine w_seq ?_
  refine w_reg ⟨[E1, E2, E4, E6, E10, (30, .one .top (.bool r4))], [B3, B13], H⟩ (by kernel_rfl) ?_
  refine w_join (α := (T_ref02_Instr)) (fun x => (⟨[E1, E2, E4, E6, E10], [B3, (4, (m0_ref02_Instr x))], H⟩ : St)) (fun x => ref02_Decode_j2 r5 r1 p0 x = some (ra, rb)) ?_ ?_
  rintro j8 hF
  replace hF : ref02_Decode_j2 r5 r1 p0 j8 = some (ra, rb) := hF
  let B14 : Nat × List MC := (4, (m0_ref02_Instr j8))
  let S40 : St := ⟨[E1, E2, E4, E6], [B3, B14], H⟩
  unfold ref02_Decode_j2 at hF
  refine w_seq ?_
  refine w_seq ?_
  refine w_reg ⟨[E1, E2, E4, E6, (36, .one .top (.bool r5))], [B3, B14], H⟩ (by kernel_rfl) ?_
  refine w_join (α := (T_ref02_Instr)) (fun x => (⟨[E1, E2, E4, E6], [B3, (4, (m0_ref02_Instr x))], H⟩ : St)) (fun x => ref02_Decode_j3 r1 p0 x = some (ra, rb)) ?_ ?_
  rintro j9 hF
  replace hF : ref02_Decode_j3 r1 p0 j9 = some (ra, rb) := hF
  let B16 : Nat × List MC := (4, (m0_ref02_Instr j9))
  let S32 : St := ⟨[E1, E2, E4, E15], [B3, B16], H⟩
  let S33 : St := ⟨[E1, E2, E4, E15, E17], [B3, B16], H⟩
  let S35 : St := ⟨[E1, E2, E4], [B3, B16], H⟩
  let S36 : St := ⟨[E1, E2, E4, E25], [B3, B16], H⟩
  let S37 : St := ⟨[E1, E2, E4, E15, E26], [B3, B16], H⟩
  let S38 : St := ⟨[E1, E2, E4, E28], [B3, B16], H⟩
  let S39 : St := ⟨[E1, E2, E4, E15, E29], [B3, B16], H⟩
  unfold ref02_Decode_j3 at hF
  refine w_seq ?_
  refine w_seq ?_
  refine w_reg S32 (by kernel_rfl) ?_
  refine w_block ?_
  refine w_seq ?_
  refine w_seq ?_
  refine w_reg S33 (by kernel_rfl) ?_
  refine w_join (α := (Bool)) (fun x => (⟨[E1, E2, E4, E15, (42, .one .top (.bool x))], [B3, B16], H⟩ : St)) (fun x => ref02_Decode_j4 p0 j9 r1 x = some (ra, rb)) ?_ ?_
  rintro j10 hF
  replace hF : ref02_Decode_j4 p0 j9 r1 j10 = some (ra, rb) := hF
  unfold ref02_Decode_j4 at hF
  refine w_join (α := (T_ref02_Instr)) (fun x => (⟨[E1, E2, E4], [B3, (4, (m0_ref02_Instr x))], H⟩ : St)) (fun x => ref02_Decode_j5 p0 x = some (ra, rb)) ?_ ?_
  rintro j11 hF
  replace hF : ref02_Decode_j5 p0 j11 = some (ra, rb) := hF
  let B20 : Nat × List MC := (4, (m0_ref02_Instr j11))
  let E21 : Nat × TV := (64, .agg (m0_ref02_Instr j11))
  let S34 : St := ⟨[E1, E2, E4, E21], [B3, B20], H⟩
  unfold ref02_Decode_j5 at hF
  refine w_seq ?_
  obtain ⟨r12, r13, c14, hF⟩ := bind2_inv hF
  let E18 : Nat × TV := (9, .one .top (.int .u32 r12))
  let E19 : Nat × TV := (10, .one .top (.int .i64 r13))
  let E22 : Nat × TV := (65, .tup [.one .top (.int .u32 r12), .one .top (.int .i64 r13)])
  let E23 : Nat × TV := (68, .one .top (.int .i64 r13))
  refine w_regO ⟨[E1, E2, E4, E18, E19], [B3, B20], H⟩ ?_ ?_
  refine o_run 1 S34 (by kernel_rfl) (by kernel_rfl) ?_
  refine o_one ⟨[E1, E2, E4, E21, E22], [B3, B20], H⟩ (st_call (d := (some 65)) (fz := false) (pure := true) (own := false) S34 (ok_ref02_Encode H c14) (by kernel_rfl) (by kernel_rfl)) ?_
  refine o_run 5 ⟨[E1, E2, E4, E18, E19, (63, .tup [.one .top (.int .u32 r12), .one .top (.int .i64 r13)]), E21, E22, (66, .one .top (.int .u32 r12)), (67, .one .top (.int .i64 r13))], [B3, B20], H⟩ (by kernel_rfl) (by kernel_rfl) ?_
  exact o_end (by kernel_rfl) (by kernel_rfl)
  refine w_seq ?_
  refine w_seq ?_
  refine w_regO ⟨[E2, E4, (74, .one .top (.bool ((r13 != 0) || (r12 != p0))))], [B3, B20], H⟩ ?_ ?_
  refine o_run 3 ⟨[E1, E2, E4, E18, E19, E23, (69, .one .top (.bool (r13 != 0))), (70, .one .top (.bool (r13 != 0)))], [B3, B20], H⟩ (by kernel_rfl) (by kernel_rfl) ?_
  rcases bool_cases (r13 != 0) with h15 | h15
  refine o_eq (congrArg (fun q => (⟨[E1, E2, E4, E18, E19, E23, (69, .one .top (.bool q)), (70, .one .top (.bool q))], [B3, B20], H⟩ : St)) h15) ?_
  refine o_run 4 ⟨[E1, E2, E4, E18, E19, E23, (69, .one .top (.bool true)), (70, .one .top (.bool true)), (71, .tup []), (72, .tup []), (73, .tup []), (74, .one .top (.bool true))], [B3, B20], H⟩ (by kernel_rfl) (by kernel_rfl) ?_
  refine o_eq2 (congrArg (fun q0 => (⟨[E2, E4, (74, .one .top (.bool q0))], [B3, B20], H⟩ : St)) (show true = ((r13 != 0) || (r12 != p0)) by simp [h15])) ?_
  exact o_end (by kernel_rfl) (by kernel_rfl)
  refine o_eq (congrArg (fun q => (⟨[E1, E2, E4, E18, E19, E23, (69, .one .top (.bool q)), (70, .one .top (.bool q))], [B3, B20], H⟩ : St)) h15) ?_
  refine o_run 4 ⟨[E1, E2, E4, E18, E19, E23, (69, .one .top (.bool false)), (70, .one .top (.bool false)), (71, .one .top (.int .u32 r12)), (72, .one .top (.int .u32 p0)), (73, .one .top (.bool (r12 != p0))), (74, .one .top (.bool (r12 != p0)))], [B3, B20], H⟩ (by kernel_rfl) (by kernel_rfl) ?_
  refine o_eq2 (congrArg (fun q0 => (⟨[E2, E4, (74, .one .top (.bool q0))], [B3, B20], H⟩ : St)) (show (r12 != p0) = ((r13 != 0) || (r12 != p0)) by simp [h15])) ?_
  exact o_end (by kernel_rfl) (by kernel_rfl)
  rcases if_inv hF with ⟨h16, hF⟩ | ⟨h16, hF⟩
  refine w_cT (m := .top) h16 (s1 := (⟨[E2], [B3], H⟩ : St)) (by kernel_rfl) (by kernel_rfl) ?_
  refine w_seq ?_
  refine w_reg ⟨[E2, (3, .one .top (.int .i64 21))], [B3], H⟩ (by kernel_rfl) ?_
  refine w_ret ?_
  obtain ⟨e0, e1⟩ := some2_inv hF
  subst e0
  subst e1
  exact fin_pure (v := .tup [.agg [(.top, .int .i64 0), (.top, .int .i64 0), (.top, .int .i64 0), (.top, .int .i64 0), (.top, .int .i64 0)], .one .top (.int .i64 21)]) (by kernel_rfl) (by kernel_rfl) rfl (by kernel_rfl)
  refine w_cF (m := .top) h16 (s1 := (⟨[E2, E4], [B3, B20], H⟩ : St)) (by kernel_rfl) (by kernel_rfl) ?_
  refine w_skip ?_
  refine w_seq ?_
  refine w_reg ⟨[E2, (3, .one .top (.int .i64 0))], [(2, (m0_ref02_Instr j11))], H⟩ (by kernel_rfl) ?_
  refine w_ret ?_
  obtain ⟨e0, e1⟩ := some2_inv hF
  subst e0
  subst e1
  exact fin_pure (v := .tup [.agg (m0_ref02_Instr j11), .one .top (.int .i64 0)]) (by kernel_rfl) (by kernel_rfl) rfl (by kernel_rfl)
  rcases if_inv hF with ⟨h17, hF⟩ | ⟨h17, hF⟩
  refine w_cT (m := .top) h17 (s1 := S35) (by kernel_rfl) (by kernel_rfl) ?_
  obtain ⟨r18, c19, hF⟩ := bind1_inv hF
  let B24 : Nat × List MC := (4, [(.top, .int .i64 j9.Op_), (.top, .int .i64 j9.A_), (.top, .int .i64 j9.B_), (.top, .int .i64 j9.C_), (.top, .int .i64 (IntKind.wrap .i64 r18))])
  refine w_regO ⟨[E1, E2, E4], [B3, B24], H⟩ ?_ ?_
  refine o_run 1 S36 (by kernel_rfl) (by kernel_rfl) ?_
  refine o_one ⟨[E1, E2, E4, E25, (46, .one .top (.int .i32 r18))], [B3, B16], H⟩ (st_call (d := (some 46)) (fz := false) (pure := true) (own := false) S36 (ok_ref01_Sext H c19) (by kernel_rfl) (by kernel_rfl)) ?_
  refine o_run 3 ⟨[E1, E2, E4, E25, (46, .one .top (.int .i32 r18)), (47, .one .top (.int .i64 (IntKind.wrap .i64 r18))), (48, .one .top (.loc 4 4))], [B3, B24], H⟩ (by kernel_rfl) (by kernel_rfl) ?_
  exact o_end (by kernel_rfl) (by kernel_rfl)
  exact ⟨(T_ref02_Instr.mk j9.Op_ j9.A_ j9.B_ j9.C_ (IntKind.wrap .i64 r18)), hF, (by kernel_rfl)⟩
  refine w_cF (m := .top) h17 (s1 := S32) (by kernel_rfl) (by kernel_rfl) ?_
  refine w_seq ?_
  refine w_seq ?_
  refine w_reg S37 (by kernel_rfl) ?_
  refine w_join (α := (Bool)) (fun x => (⟨[E1, E2, E4, E15, (49, .one .top (.bool x))], [B3, B16], H⟩ : St)) (fun x => ref02_Decode_j6 p0 j9 r1 x = some (ra, rb)) ?_ ?_
  rintro j20 hF
  replace hF : ref02_Decode_j6 p0 j9 r1 j20 = some (ra, rb) := hF
  unfold ref02_Decode_j6 at hF
  refine w_join (α := (T_ref02_Instr)) (fun x => (⟨[E1, E2, E4], [B3, (4, (m0_ref02_Instr x))], H⟩ : St)) (fun x => ref02_Decode_j7 p0 x = some (ra, rb)) ?_ ?_
  rintro j21 hF
  replace hF : ref02_Decode_j7 p0 j21 = some (ra, rb) := hF
  unfold ref02_Decode_j7 at hF
  exact ⟨j21, hF, (by kernel_rfl)⟩
  rcases if_inv hF with ⟨h22, hF⟩ | ⟨h22, hF⟩
  refine w_cT (m := .top) h22 (s1 := S35) (by kernel_rfl) (by kernel_rfl) ?_
  refine w_reg ⟨[E1, E2, E4], [B3, (4, [(.top, .int .i64 j9.Op_), (.top, .int .i64 j9.A_), (.top, .int .i64 j9.B_), (.top, .int .i64 j9.C_), (.top, .int .i64 (IntKind.wrap .i64 (Int.tmod p0 65536)))])], H⟩ (by kernel_rfl) ?_
  exact ⟨(T_ref02_Instr.mk j9.Op_ j9.A_ j9.B_ j9.C_ (IntKind.wrap .i64 (Int.tmod p0 65536))), hF, (by kernel_rfl)⟩
  refine w_cF (m := .top) h22 (s1 := S32) (by kernel_rfl) (by kernel_rfl) ?_
  refine w_seq ?_
  refine w_reg ⟨[E1, E2, E4, (57, .one .top (.bool (r1 == 7)))], [B3, B16], H⟩ (by kernel_rfl) ?_
  refine w_join (α := (T_ref02_Instr)) (fun x => (⟨[E1, E2, E4], [B3, (4, (m0_ref02_Instr x))], H⟩ : St)) (fun x => ref02_Decode_j8 p0 x = some (ra, rb)) ?_ ?_
  rintro j23 hF
  replace hF : ref02_Decode_j8 p0 j23 = some (ra, rb) := hF
  unfold ref02_Decode_j8 at hF
  exact ⟨j23, hF, (by kernel_rfl)⟩
  rcases if_inv hF with ⟨h24, hF⟩ | ⟨h24, hF⟩
  refine w_cT (m := .top) h24 (s1 := S35) (by kernel_rfl) (by kernel_rfl) ?_
  obtain ⟨r25, c26, hF⟩ := bind1_inv hF
  let B27 : Nat × List MC := (4, [(.top, .int .i64 j9.Op_), (.top, .int .i64 j9.A_), (.top, .int .i64 j9.B_), (.top, .int .i64 j9.C_), (.top, .int .i64 (IntKind.wrap .i64 r25))])
  refine w_regO ⟨[E1, E2, E4], [B3, B27], H⟩ ?_ ?_
  refine o_run 1 S38 (by kernel_rfl) (by kernel_rfl) ?_
  refine o_one ⟨[E1, E2, E4, E28, (60, .one .top (.int .i32 r25))], [B3, B16], H⟩ (st_call (d := (some 60)) (fz := false) (pure := true) (own := false) S38 (ok_ref01_Sext H c26) (by kernel_rfl) (by kernel_rfl)) ?_
  refine o_run 3 ⟨[E1, E2, E4, E28, (60, .one .top (.int .i32 r25)), (61, .one .top (.int .i64 (IntKind.wrap .i64 r25))), (62, .one .top (.loc 4 4))], [B3, B27], H⟩ (by kernel_rfl) (by kernel_rfl) ?_
  exact o_end (by kernel_rfl) (by kernel_rfl)
  exact ⟨(T_ref02_Instr.mk j9.Op_ j9.A_ j9.B_ j9.C_ (IntKind.wrap .i64 r25)), hF, (by kernel_rfl)⟩
  refine w_cF (m := .top) h24 (s1 := S35) (by kernel_rfl) (by kernel_rfl) ?_
  refine w_skip ?_
  exact ⟨j9, hF, (by kernel_rfl)⟩
  rcases if_inv hF with ⟨h27, hF⟩ | ⟨h27, hF⟩
  refine w_cT (m := .top) h27 (s1 := S37) (by kernel_rfl) (by kernel_rfl) ?_
  refine w_skip ?_
  exact ⟨(r1 == 2), hF, (by kernel_rfl)⟩
  refine w_cF (m := .top) h27 (s1 := S32) (by kernel_rfl) (by kernel_rfl) ?_
  refine w_seq ?_
  refine w_reg S39 (by kernel_rfl) ?_
  refine w_join (α := (Bool)) (fun x => (⟨[E1, E2, E4, E15, (49, .one .top (.bool x))], [B3, B16], H⟩ : St)) (fun x => ref02_Decode_j9 p0 j9 r1 x = some (ra, rb)) ?_ ?_
  rintro j28 hF
  replace hF : ref02_Decode_j9 p0 j9 r1 j28 = some (ra, rb) := hF
  unfold ref02_Decode_j9 at hF
  exact ⟨j28, hF, (by kernel_rfl)⟩
  rcases if_inv hF with ⟨h29, hF⟩ | ⟨h29, hF⟩
  refine w_cT (m := .top) h29 (s1 := S39) (by kernel_rfl) (by kernel_rfl) ?_
  refine w_skip ?_
  exact ⟨(r1 == 4), hF, (by kernel_rfl)⟩
  refine w_cF (m := .top) h29 (s1 := S32) (by kernel_rfl) (by kernel_rfl) ?_
  refine w_reg ⟨[E1, E2, E4, E15, (49, .one .top (.bool (r1 == 8)))], [B3, B16], H⟩ (by kernel_rfl) ?_
  exact ⟨(r1 == 8), hF, (by kernel_rfl)⟩
  rcases if_inv hF with ⟨h30, hF⟩ | ⟨h30, hF⟩
  refine w_cT (m := .top) h30 (s1 := S33) (by kernel_rfl) (by kernel_rfl) ?_
  refine w_skip ?_
  exact ⟨(r1 == 1), hF, (by kernel_rfl)⟩
  refine w_cF (m := .top) h30 (s1 := S32) (by kernel_rfl) (by kernel_rfl) ?_
  refine w_reg ⟨[E1, E2, E4, E15, (42, .one .top (.bool (r1 == 3)))], [B3, B16], H⟩ (by kernel_rfl) ?_
  exact ⟨(r1 == 3), hF, (by kernel_rfl)⟩
  rcases if_inv hF with ⟨h31, hF⟩ | ⟨h31, hF⟩
  refine w_cT (m := .top) h31 (s1 := S40) (by kernel_rfl) (by kernel_rfl) ?_
  refine w_reg ⟨[E1, E2, E4, E6], [B3, (4, [(.top, .int .i64 j8.Op_), (.top, .int .i64 j8.A_), (.top, .int .i64 j8.B_), (.top, .int .i64 (IntKind.wrap .i64 (Int.tmod p0 16))), (.top, .int .i64 j8.Imm_)])], H⟩ (by kernel_rfl) ?_
  exact ⟨(T_ref02_Instr.mk j8.Op_ j8.A_ j8.B_ (IntKind.wrap .i64 (Int.tmod p0 16)) j8.Imm_), hF, (by kernel_rfl)⟩
  refine w_cF (m := .top) h31 (s1 := S40) (by kernel_rfl) (by kernel_rfl) ?_
  refine w_skip ?_
  exact ⟨j8, hF, (by kernel_rfl)⟩
  rcases if_inv hF with ⟨h32, hF⟩ | ⟨h32, hF⟩
  refine w_cT (m := .top) h32 (s1 := S41) (by kernel_rfl) (by kernel_rfl) ?_
  refine w_reg ⟨[E1, E2, E4, E6, E10], [B3, (4, [(.top, .int .i64 j7.Op_), (.top, .int .i64 j7.A_), (.top, .int .i64 (IntKind.wrap .i64 (Int.tmod (IntKind.wrap .u32 (Int.tdiv p0 65536)) 16))), (.top, .int .i64 j7.C_), (.top, .int .i64 j7.Imm_)])], H⟩ (by kernel_rfl) ?_
  exact ⟨(T_ref02_Instr.mk j7.Op_ j7.A_ (IntKind.wrap .i64 (Int.tmod (IntKind.wrap .u32 (Int.tdiv p0 65536)) 16)) j7.C_ j7.Imm_), hF, (by kernel_rfl)⟩
  refine w_cF (m := .top) h32 (s1 := S41) (by kernel_rfl) (by kernel_rfl) ?_
  refine w_skip ?_
  exact ⟨j7, hF, (by kernel_rfl)⟩
  rcases if_inv hF with ⟨h33, hF⟩ | ⟨h33, hF⟩
  refine w_cT (m := .top) h33 (s1 := S42) (by kernel_rfl) (by kernel_rfl) ?_
  refine w_reg ⟨[E1, E2, E4, E6, E9, E10], [B3, (4, [(.top, .int .i64 (IntKind.wrap .i64 (IntKind.wrap .u32 (Int.tdiv p0 16777216)))), (.top, .int .i64 (IntKind.wrap .i64 (Int.tmod (IntKind.wrap .u32 (Int.tdiv p0 1048576)) 16))), (.top, .int .i64 0), (.top, .int .i64 0), (.top, .int .i64 0)])], H⟩ (by kernel_rfl) ?_
  exact ⟨(T_ref02_Instr.mk (IntKind.wrap .i64 (IntKind.wrap .u32 (Int.tdiv p0 16777216))) (IntKind.wrap .i64 (Int.tmod (IntKind.wrap .u32 (Int.tdiv p0 1048576)) 16)) 0 0 0), hF, (by kernel_rfl)⟩
  refine w_cF (m := .top) h33 (s1 := S42) (by kernel_rfl) (by kernel_rfl) ?_
  refine w_skip ?_
  exact ⟨(T_ref02_Instr.mk (IntKind.wrap .i64 (IntKind.wrap .u32 (Int.tdiv p0 16777216))) 0 0 0 0), hF, (by kernel_rfl)⟩
end Go.Proofs.Abs
