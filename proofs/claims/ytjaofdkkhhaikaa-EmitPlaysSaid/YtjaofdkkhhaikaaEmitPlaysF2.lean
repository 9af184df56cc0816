/- The law EmitPlays: whatever the input, it answers true. No conditions. (Part EmitPlaysF2 of its proof.) -/
import Derived.Test.YtjaofdkkhhaikaaEmitPlaysF1
set_option linter.unusedVariables false
set_option linter.unusedSimpArgs false
set_option linter.unusedSectionVars false
/- Printed by gen (walk.py). -/
namespace Go.Proofs.Abs
open Go Go.Proofs
set_option linter.unusedVariables false
set_option maxRecDepth 100000
set_option maxHeartbeats 0
noncomputable def emit_Code_Unguard (H : Heap) (p0 : Ptr) : Option (Heap) :=
  (p0).bnd fun i1 o2 =>
  bind1 (get_emit_Code H i1 o2) fun x4 =>
  if (decide ((x4.active_.length : Int) > 0)) = true then (bind1 (cut x4.active_ 0 (IntKind.wrap .i64 ((x4.active_.length : Int) - 1))) fun v8 =>
  bind1 (ne x4.active_) fun _ =>
  bnd (set_emit_Code H i1 o2 (T_emit_Code.mk x4.words_ x4.fixups_ x4.marks_ x4.pads_ v8 x4.depth_ x4.most_ x4.err_)) fun H10 =>
  bind1 (emit_Code_now H10 (Ptr.at i1 o2)) fun r13 =>
  bind1 (ranges_Builder_Mark H10 (Ptr.at i1 (o2 + 2)) (x4.words_.length : Int) r13) fun H16 =>
  some H16)
  else (some H)
theorem ok_emit_Code_Unguard (H : Heap) {p0 : Ptr} {Hr : Heap} (hF : emit_Code_Unguard H p0 = some Hr) : evS X 32 [.one .top (Ptr.av p0)] H = some (.tup [], Hr) := by
 refine yf Try.func32 false ⟨[(0, vp p0)], [], H⟩ ?_
 unfold emit_Code_Unguard at hF
 refine w_seq ?_
 obtain ⟨i1, o2, h3, hF⟩ := pbnd_inv hF
 let E3 : EN := (0, vo i1 o2)
 let E7 : EN := (8, vo i1 o2)
 let E8 : EN := (13, vo i1 o2)
 let E11 : EN := (20, vo i1 o2)
 let E13 : EN := (22, vo i1 o2)
 let E14 : EN := (23, vo i1 o2)
 let E15 : EN := (27, vo i1 o2)
 let L16 : List EN := [E3, E7, (9, vo i1 o2), (10, vo i1 o2), (11, vo i1 (o2 + 4))]
 let L17 : List EN := [E8, (14, vo i1 o2), (15, vo i1 (o2 + 4))]
 let L21 : List EN := [E3, E13, E14, (24, vo i1 (o2 + 2)), (25, vo i1 o2)]
 let L22 : List EN := [E3, (2, vo i1 o2), (3, vo i1 o2), (4, vo i1 (o2 + 4))]
 obtain ⟨x4, V5, hF⟩ := bind1_inv hF
 replace V5 := hgetT_inv V5
 let E2 : EN := (16, .one .bh (.sl 1 (List.map (eI .i64) x4.active_)))
 let E4 : EN := (7, vb (decide ((x4.active_.length : Int) > 0)))
 let E5 : EN := (5, .one .bh (.sl 1 (List.map (eI .i64) x4.active_)))
 let E6 : EN := (6, vi (x4.active_.length : Int))
 let E9 : EN := (12, .one .top (.at_ (.obj i1 (o2 + 4)) 0 ((List.map (eI .i64) x4.active_).length)))
 let E10 : EN := (17, vi (x4.active_.length : Int))
 let E12 : EN := (18, vi (IntKind.wrap .i64 ((x4.active_.length : Int) - 1)))
 let L18 : List EN := L16 ++ [E9] ++ L17 ++ [E2]
 let L19 : List EN := L18 ++ [E10, E12]
 let L20 : List EN := L19 ++ [(19, .one .top (.at_ (.obj i1 (o2 + 4)) (Int.toNat 0) (Int.toNat (IntKind.wrap .i64 ((x4.active_.length : Int) - 1)) - Int.toNat 0)))]
 let L23 : List EN := L16 ++ L17 ++ [E2]
 let L24 : List EN := L21 ++ [(26, vi (x4.words_.length : Int)), E15]
 let L25 : List EN := L20 ++ [E11, (21, vo i1 (o2 + 4))]
 let L26 : List EN := L16 ++ [(12, .one .top .junk)] ++ L17 ++ [(16, .one .top .junk), E10, E12, (19, .one .top .junk), E11, (21, vo i1 (o2 + 4))]
 refine w_regO ⟨[E3, E4], [], H⟩ ?_ ?_
 refine yr 1 ⟨[(0, vp p0), (2, vp p0)], [], H⟩ ?_ (h := (by generalize p0 = qp0; cases qp0 <;> kernel_rfl))
 refine o_eq (congrArg (fun q => (⟨[(0, vp q), (2, vp q)], [], H⟩ : St)) h3) ?_
 refine yr 1 ⟨[E3, (2, vo i1 o2), (3, vo i1 o2)], [], H⟩ ?_
 refine yr 1 ⟨L22, [], H⟩ ?_
 refine o_one ⟨L22 ++ [E5], [], H⟩ (yd (X := X) (⟨L22, [], H⟩ : St) 26 V5 4 1 false (.one .bh (.sl 1 (List.map (eI .i64) x4.active_))) (some 5)) ?_
 refine o_one ⟨L22 ++ [E5, E6], [], H⟩ (yl (⟨L22 ++ [E5], [], H⟩ : St) x4.active_ (eI .i64) (some 6)) ?_
 refine yr 1 ⟨L22 ++ [E5, E6, E4], [], H⟩ ?_
 exact ye
 rcases if_inv hF with ⟨h6, hF⟩ | ⟨h6, hF⟩
 refine yT h6 ⟨[E3], [], H⟩ ?_
 refine w_seq ?_
 obtain ⟨v8, h7, hF⟩ := bind1_inv hF
 let W1 : Heap := hset H i1 o2 [((.own 1), .sl 1 (List.map (eI .u32) x4.words_)), ((.own 1), .sl 4 (List.map e_api_Fixup x4.fixups_)), ((.own 1), .sl 2 (List.map e_api_Segment x4.marks_.list_)), ((.own 1), .sl 1 (List.map (eI .i64) x4.pads_)), ((.own 1), .sl 1 (List.map (eI .i64) v8)), (.top, .int .i64 x4.depth_), (.top, .int .i64 x4.most_), (.top, .int .i64 x4.err_)]
 obtain ⟨_, h9, hF⟩ := bind1_inv hF
 obtain ⟨H10, h11, hF⟩ := bnd_inv hF
 have V12 : hget H10 i1 o2 8 = some (o_emit_Code (T_emit_Code.mk x4.words_ x4.fixups_ x4.marks_ x4.pads_ v8 x4.depth_ x4.most_ x4.err_)) := by rw [← h11]; exact hset_get V5 rfl
 let K27 : Sch := .take 11 (.take 12 (.take 13 (.last 14 .done)))
 refine w_regD (.take 0 (.take 1 (.take 2 (.take 3 (.take 5 (.take 6 (.take 7 (.alt 4 (.last 8 (.take 9 (.take 10 K27))) (.last 8 (.take 9 (.take 10 (.last 4 K27)))))))))))) (by kernel_rfl) (⟨[E3], [], H10⟩ : St) ?_ ?_
 refine ydk 7 ⟨L16 ++ L17, [], H⟩ ?_
 refine q_in (⟨L26, [], W1⟩ : St) ?_ ?_
 refine q_alt ⟨L16 ++ [E9] ++ L17, [], H⟩ (st_ldP (X := X) (⟨L16 ++ L17, [], H⟩ : St) 26 V5 4 0 1 (List.map (eI .i64) x4.active_) (some 12) (by kernel_rfl) (by kernel_rfl) (by kernel_rfl) (by kernel_rfl) (by kernel_rfl) (by kernel_rfl)) ?_ ?_
 refine q_last ⟨L18, [], H⟩ (yd (X := X) (⟨L16 ++ [E9] ++ L17, [], H⟩ : St) 26 V5 4 1 false (.one .bh (.sl 1 (List.map (eI .i64) x4.active_))) (some 16)) ?_
 refine q_take ⟨L18 ++ [E10], [], H⟩ (yl (⟨L18, [], H⟩ : St) x4.active_ (eI .i64) (some 17)) ?_
 refine yqt ⟨L19, [], H⟩ ?_
 refine q_take ⟨L20, [], H⟩ (st_cutB (X := X) (⟨L19, [], H⟩ : St) 26 3 1 h7 (eI .i64) (.obj i1 (o2 + 4)) 0 none (some (.tmp 18)) (some 19) (by kernel_rfl) (by kernel_rfl) (by kernel_rfl) (at_obj (k := 4) (c := ((.own 1), .sl 1 (List.map (eI .i64) x4.active_))) V5 (by kernel_rfl) (by kernel_rfl)) (show bndIs X.P _ _ none _ from rfl) (show (opnd X.P (⟨L19, [], H⟩ : St) 0 (.tmp 18)).bind natOf = some (IntKind.wrap .i64 ((x4.active_.length : Int) - 1)) by kernel_rfl) (by kernel_rfl)) ?_
 refine yqt ⟨L20 ++ [E11], [], H⟩ ?_
 refine yqt ⟨L25, [], H⟩ ?_
 refine q_last ⟨L26, [], W1⟩ (st_stAt (X := X) (lc := []) (h2 := W1) (⟨L25, [], H⟩ : St) 26 V5 4 h7 (ne_inv h9) (eI .i64) 0 1 (by kernel_rfl) (by kernel_rfl) (by kernel_rfl) (by kernel_rfl) (hset_sub0 V5 (Nat.le_of_ble_eq_true rfl)) (by kernel_rfl)) ?_
 exact yqe
 refine q_last ⟨L23, [], H⟩ (yd (X := X) (⟨L16 ++ L17, [], H⟩ : St) 26 V5 4 1 false (.one .bh (.sl 1 (List.map (eI .i64) x4.active_))) (some 16)) ?_
 refine q_take ⟨L23 ++ [E10], [], H⟩ (yl (⟨L23, [], H⟩ : St) x4.active_ (eI .i64) (some 17)) ?_
 refine yqt ⟨L23 ++ [E10, E12], [], H⟩ ?_
 refine q_last ⟨L19, [], H⟩ (st_ldP (X := X) (⟨L23 ++ [E10, E12], [], H⟩ : St) 26 V5 4 0 1 (List.map (eI .i64) x4.active_) (some 12) (by kernel_rfl) (by kernel_rfl) (by kernel_rfl) (by kernel_rfl) (by kernel_rfl) (by kernel_rfl)) ?_
 refine q_take ⟨L20, [], H⟩ (st_cutB (X := X) (⟨L19, [], H⟩ : St) 26 3 1 h7 (eI .i64) (.obj i1 (o2 + 4)) 0 none (some (.tmp 18)) (some 19) (by kernel_rfl) (by kernel_rfl) (by kernel_rfl) (at_obj (k := 4) (c := ((.own 1), .sl 1 (List.map (eI .i64) x4.active_))) V5 (by kernel_rfl) (by kernel_rfl)) (show bndIs X.P _ _ none _ from rfl) (show (opnd X.P (⟨L19, [], H⟩ : St) 0 (.tmp 18)).bind natOf = some (IntKind.wrap .i64 ((x4.active_.length : Int) - 1)) by kernel_rfl) (by kernel_rfl)) ?_
 refine yqt ⟨L20 ++ [E11], [], H⟩ ?_
 refine yqt ⟨L25, [], H⟩ ?_
 refine q_last ⟨L26, [], W1⟩ (st_stAt (X := X) (lc := []) (h2 := W1) (⟨L25, [], H⟩ : St) 26 V5 4 h7 (ne_inv h9) (eI .i64) 0 1 (by kernel_rfl) (by kernel_rfl) (by kernel_rfl) (by kernel_rfl) (hset_sub0 V5 (Nat.le_of_ble_eq_true rfl)) (by kernel_rfl)) ?_
 exact yqe
 refine eq_via (congrArg (fun q => (⟨L26, [], q⟩ : St)) h11) ?_
 kernel_rfl
 obtain ⟨r13, c14, hF⟩ := bind1_inv hF
 obtain ⟨H16, c15, hF⟩ := bind1_inv hF
 refine w_regD (.take 0 (.take 1 (.take 2 (.take 3 (.take 5 (.last 4 (.last 6 (.last 7 .done)))))))) (by kernel_rfl) (⟨[], [], H16⟩ : St) ?_ ?_
 refine ydk 5 ⟨L21 ++ [E15], [], H10⟩ ?_
 refine d_last ⟨L24, [], H10⟩ (yc (some 26) true false (⟨L21 ++ [E15], [], H10⟩ : St) (len_emit_Code_Here (H := H10) V12)) ?_
 refine d_last ⟨L24 ++ [(28, vi r13)], [], H10⟩ (yc (some 28) true false (⟨L24, [], H10⟩ : St) (ok_emit_Code_now H10 c14)) ?_
 refine d_last ⟨L24 ++ [(28, vi r13), (29, vN)], [], H16⟩ (yc (some 29) false false (⟨L24 ++ [(28, vi r13)], [], H10⟩ : St) (ok_ranges_Builder_Mark H10 c15)) ?_
 exact yde
 obtain e0 := some1_inv hF
 subst e0
 exact yi (vN)
 refine yF h6 ⟨[], [], H⟩ ?_
 refine w_skip ?_
 obtain e0 := some1_inv hF
 subst e0
 exact yi (vN)
noncomputable def emit_Code_Set (H : Heap) (p0 : Ptr) (p1 : Int) : Option (Heap) :=
  bind2 (if (decide (p1 ≥ 0)) = true then ((p0).bnd fun i2 o3 =>
  bind1 (get_emit_Code H i2 o3) fun x5 =>
  some ((Ptr.at i2 o3), (decide (p1 < (x5.pads_.length : Int))))) else (some (p0, false))) fun w7 w8 =>
  if w8 = true then ((w7).bnd fun i11 o12 =>
  bind1 (get_emit_Code H i11 o12) fun x14 =>
  bind1 (gi x14.pads_ p1) fun x16 =>
  bind1 (si x14.pads_ p1 (x14.words_.length : Int)) fun v18 =>
  bnd (set_emit_Code H i11 o12 (T_emit_Code.mk x14.words_ x14.fixups_ x14.marks_ v18 x14.active_ x14.depth_ x14.most_ x14.err_)) fun H20 =>
  some H20)
  else (some H)
theorem ok_emit_Code_Set (H : Heap) {p0 : Ptr} {p1 : Int} {Hr : Heap} (hF : emit_Code_Set H p0 p1 = some Hr) : evS X 33 [.one .top (Ptr.av p0), .one .top (.int .i64 p1)] H = some (.tup [], Hr) := by
 let E2 : EN := (1, vi p1)
 let L10 : List EN := [E2, (4, vi p1), (5, vT), (6, vT), (7, vi p1)]
 let L13 : Ptr → List EN := fun z0 => [(0, vp z0), E2, (4, vi p1)]
 refine yf Try.func33 false ⟨[(0, vp p0), E2], [], H⟩ ?_
 unfold emit_Code_Set at hF
 refine w_seq ?_
 obtain ⟨w7, w8, hB9, hF⟩ := bind2_inv hF
 refine w_regO ⟨[(0, vp w7), E2, (14, vb w8)], [], H⟩ ?_ ?_
 refine yr 3 ⟨(L13 p0) ++ [(5, vb (decide (p1 ≥ 0))), (6, vb (decide (p1 ≥ 0)))], [], H⟩ ?_ (h := (by generalize p0 = qp0; cases qp0 <;> kernel_rfl))
 rcases if_inv hB9 with ⟨h1, hB9⟩ | ⟨h1, hB9⟩
 refine o_eq (congrArg (fun q => (⟨(L13 p0) ++ [(5, vb q), (6, vb q)], [], H⟩ : St)) h1) ?_
 refine yr 2 ⟨[(0, vp p0)] ++ L10 ++ [(8, vp p0)], [], H⟩ ?_ (h := (by generalize p0 = qp0; cases qp0 <;> kernel_rfl))
 obtain ⟨i2, o3, h4, hB9⟩ := pbnd_inv hB9
 let E3 : EN := (10, vo i2 (o3 + 3))
 let L11 : List EN := [(0, vo i2 o3)] ++ L10 ++ [(8, vo i2 o3), (9, vo i2 o3)]
 refine o_eq (congrArg (fun q => (⟨[(0, vp q)] ++ L10 ++ [(8, vp q)], [], H⟩ : St)) h4) ?_
 refine yr 1 ⟨L11, [], H⟩ ?_
 obtain ⟨x5, V6, hB9⟩ := bind1_inv hB9
 replace V6 := hgetT_inv V6
 let E4 : EN := (12, vi (x5.pads_.length : Int))
 let L14 : List EN := L11 ++ [E3, (11, .one .bh (.sl 1 (List.map (eI .i64) x5.pads_)))]
 refine yr 1 ⟨L11 ++ [E3], [], H⟩ ?_
 refine o_one ⟨L14, [], H⟩ (yd (X := X) (⟨L11 ++ [E3], [], H⟩ : St) 26 V6 3 1 false (.one .bh (.sl 1 (List.map (eI .i64) x5.pads_))) (some 11)) ?_
 refine o_one ⟨L14 ++ [E4], [], H⟩ (yl (⟨L14, [], H⟩ : St) x5.pads_ (eI .i64) (some 12)) ?_
 refine yr 2 ⟨L14 ++ [E4, (13, vb (decide (p1 < (x5.pads_.length : Int)))), (14, vb (decide (p1 < (x5.pads_.length : Int))))], [], H⟩ ?_
 cases hB9
 exact ye
 refine o_eq (congrArg (fun q => (⟨(L13 p0) ++ [(5, vb q), (6, vb q)], [], H⟩ : St)) h1) ?_
 refine yr 8 ⟨(L13 p0) ++ [(5, vF), (6, vF), (7, vN), (8, vN), (9, vN), (10, vN), (11, vN), (12, vN), (13, vN), (14, vF)], [], H⟩ ?_ (h := (by generalize p0 = qp0; cases qp0 <;> kernel_rfl))
 cases hB9
 exact ye
 rcases if_inv hF with ⟨h10, hF⟩ | ⟨h10, hF⟩
 refine yT h10 ⟨[(0, vp w7), E2], [], H⟩ ?_
 obtain ⟨i11, o12, h13, hF⟩ := pbnd_inv hF
 let L6 : List EN := [(0, vo i11 o12), E2, (15, vo i11 o12), (16, vo i11 o12), (17, vo i11 (o12 + 3))]
 let L12 : List EN := L6 ++ [(19, vi p1), (20, vo i11 o12)]
 obtain ⟨x14, V15, hF⟩ := bind1_inv hF
 replace V15 := hgetT_inv V15
 let E5 : EN := (21, vi (x14.words_.length : Int))
 let L7 : List EN := L6 ++ [(18, .one .top (.at_ (.obj i11 (o12 + 3)) 0 ((List.map (eI .i64) x14.pads_).length))), (19, vi p1), (20, vo i11 o12)]
 let L8 : List EN := L7 ++ [E5]
 let L9 : List EN := L8 ++ [(22, .one .top (.el (.obj i11 (o12 + 3)) (Int.toNat p1) 0))]
 obtain ⟨x16, h17, hF⟩ := bind1_inv hF
 obtain ⟨v18, h19, hF⟩ := bind1_inv hF
 let W1 : Heap := hset H i11 o12 [((.own 1), .sl 1 (List.map (eI .u32) x14.words_)), ((.own 1), .sl 4 (List.map e_api_Fixup x14.fixups_)), ((.own 1), .sl 2 (List.map e_api_Segment x14.marks_.list_)), ((.own 1), .sl 1 (List.map (eI .i64) v18)), ((.own 1), .sl 1 (List.map (eI .i64) x14.active_)), (.top, .int .i64 x14.depth_), (.top, .int .i64 x14.most_), (.top, .int .i64 x14.err_)]
 obtain ⟨H20, h21, hF⟩ := bnd_inv hF
 have V22 : hget H20 i11 o12 8 = some (o_emit_Code (T_emit_Code.mk x14.words_ x14.fixups_ x14.marks_ v18 x14.active_ x14.depth_ x14.most_ x14.err_)) := by rw [← h21]; exact hset_get V15 rfl
 refine w_regD (.take 0 (.take 1 (.take 2 (.take 4 (.take 5 (.alt 3 (.last 6 (.take 7 (.last 8 .done))) (.last 6 (.last 3 (.take 7 (.last 8 .done)))))))))) (by kernel_rfl) (⟨[], [], H20⟩ : St) ?_ ?_
 refine d_take ⟨[(0, vp w7), E2, (15, vp w7)], [], H⟩ (by generalize w7 = qp0; cases qp0 <;> kernel_rfl) ?_
 refine d_eq (congrArg (fun q => (⟨[(0, vp q), E2, (15, vp q)], [], H⟩ : St)) h13) ?_
 refine ydk 4 ⟨L12, [], H⟩ ?_
 refine q_in (⟨L9, [], W1⟩ : St) ?_ ?_
 refine q_alt ⟨L7, [], H⟩ (st_ldP (X := X) (⟨L12, [], H⟩ : St) 26 V15 3 0 1 (List.map (eI .i64) x14.pads_) (some 18) (by kernel_rfl) (by kernel_rfl) (by kernel_rfl) (by kernel_rfl) (by kernel_rfl) (by kernel_rfl)) ?_ ?_
 refine q_last ⟨L8, [], H⟩ (yc (some 21) true false (⟨L7, [], H⟩ : St) (len_emit_Code_Here (H := H) V15)) ?_
 refine q_take ⟨L9, [], H⟩ (st_ixA (X := X) (⟨L8, [], H⟩ : St) 26 3 1 h17 (eI .i64) (.obj i11 (o12 + 3)) 0 (List.map (eI .i64) x14.pads_).length 0 (some 22) (by kernel_rfl) (by kernel_rfl) (by kernel_rfl) (at_obj (k := 3) (c := ((.own 1), .sl 1 (List.map (eI .i64) x14.pads_))) V15 (by kernel_rfl) (by kernel_rfl)) rfl (List.length_map _) (by kernel_rfl)) ?_
 refine q_last ⟨L9, [], W1⟩ (st_stE (X := X) (⟨L9, [], H⟩ : St) (⟨L9, [], W1⟩ : St) ⟨false, []⟩ 3 (.obj i11 (o12 + 3)) (Int.toNat p1) 0 1 0 (List.map (eI .i64) x14.pads_) [.int .i64 x16] ((eI .i64) (x14.words_.length : Int)) (List.map (eI .i64) v18) 1 (vi (x14.words_.length : Int)) (by kernel_rfl) (by kernel_rfl) (by kernel_rfl) (by kernel_rfl) (by kernel_rfl) (at_obj (k := 3) (c := ((.own 1), .sl 1 (List.map (eI .i64) x14.pads_))) V15 (by kernel_rfl) (by kernel_rfl)) (el_at h17) (by kernel_rfl) (by kernel_rfl) (el_put h19) (root_obj (k := 3) V15 (by kernel_rfl) (hset_sub0 V15 (Nat.le_of_ble_eq_true rfl))) (by kernel_rfl)) ?_
 exact yqe
 refine q_last ⟨L12 ++ [E5], [], H⟩ (yc (some 21) true false (⟨L12, [], H⟩ : St) (len_emit_Code_Here (H := H) V15)) ?_
 refine q_last ⟨L8, [], H⟩ (st_ldP (X := X) (⟨L12 ++ [E5], [], H⟩ : St) 26 V15 3 0 1 (List.map (eI .i64) x14.pads_) (some 18) (by kernel_rfl) (by kernel_rfl) (by kernel_rfl) (by kernel_rfl) (by kernel_rfl) (by kernel_rfl)) ?_
 refine q_take ⟨L9, [], H⟩ (st_ixA (X := X) (⟨L8, [], H⟩ : St) 26 3 1 h17 (eI .i64) (.obj i11 (o12 + 3)) 0 (List.map (eI .i64) x14.pads_).length 0 (some 22) (by kernel_rfl) (by kernel_rfl) (by kernel_rfl) (at_obj (k := 3) (c := ((.own 1), .sl 1 (List.map (eI .i64) x14.pads_))) V15 (by kernel_rfl) (by kernel_rfl)) rfl (List.length_map _) (by kernel_rfl)) ?_
 refine q_last ⟨L9, [], W1⟩ (st_stE (X := X) (⟨L9, [], H⟩ : St) (⟨L9, [], W1⟩ : St) ⟨false, []⟩ 3 (.obj i11 (o12 + 3)) (Int.toNat p1) 0 1 0 (List.map (eI .i64) x14.pads_) [.int .i64 x16] ((eI .i64) (x14.words_.length : Int)) (List.map (eI .i64) v18) 1 (vi (x14.words_.length : Int)) (by kernel_rfl) (by kernel_rfl) (by kernel_rfl) (by kernel_rfl) (by kernel_rfl) (at_obj (k := 3) (c := ((.own 1), .sl 1 (List.map (eI .i64) x14.pads_))) V15 (by kernel_rfl) (by kernel_rfl)) (el_at h17) (by kernel_rfl) (by kernel_rfl) (el_put h19) (root_obj (k := 3) V15 (by kernel_rfl) (hset_sub0 V15 (Nat.le_of_ble_eq_true rfl))) (by kernel_rfl)) ?_
 exact yqe
 refine eq_via (congrArg (fun q => (⟨L9, [], q⟩ : St)) h21) ?_
 kernel_rfl
 obtain e0 := some1_inv hF
 subst e0
 exact yi (vN)
 refine yF h10 ⟨[], [], H⟩ ?_
 refine w_skip ?_
 obtain e0 := some1_inv hF
 subst e0
 exact yi (vN)
noncomputable def law17_others_j1 (j11 : T_ref17_Code) (H12 : Heap) : Option (Heap × T_ref17_Code) :=
  some (H12, j11)
noncomputable def law17_others_j2 (j16 : T_ref17_Code) (H17 : Heap) : Option (Heap × T_ref17_Code) :=
  law17_others_j1 j16 H17
noncomputable def law17_others_j3 (j26 : T_ref17_Code) (H27 : Heap) : Option (Heap × T_ref17_Code) :=
  law17_others_j2 j26 H27
noncomputable def law17_others_j4 (j30 : T_ref17_Code) (H31 : Heap) : Option (Heap × T_ref17_Code) :=
  law17_others_j3 j30 H31
noncomputable def law17_others_j5 (j39 : T_ref17_Code) (H40 : Heap) : Option (Heap × T_ref17_Code) :=
  law17_others_j3 j39 H40
noncomputable def law17_others_j6 (H48 : Heap) (j50 : T_ref17_Code) : Option (Heap × T_ref17_Code) :=
  law17_others_j5 j50 H48
noncomputable def law17_others (H : Heap) (p0 : Ptr) (p1 : T_ref17_Code) (p2 : T_law17_Op) : Option (Heap × T_ref17_Code) :=
  if (p2.Kind_ == 3) = true then (bind1 (emit_Code_Land H p0 p2.A_) fun H3 =>
  bind1 (ref17_Patch p1 p2.A_ (IntKind.wrap .i64 ((IntKind.wrap .i64 ((p1.L_.length : Int) - p2.A_)) - 1))) fun r4 =>
  some (H3, r4))
  else (if (p2.Kind_ == 5) = true then (bind1 (emit_Code_Patch H p0 p2.A_ p2.B_) fun H8 =>
  bind1 (ref17_Patch p1 p2.A_ p2.B_) fun r9 =>
  some (H8, r9))
  else (if (p2.Kind_ == 9) = true then (bind1 (emit_Code_Drop H p0 (if 100 < (if 0 > p2.N_ then 0 else p2.N_) then 100 else (if 0 > p2.N_ then 0 else p2.N_))) fun H15 =>
  law17_others_j1 (T_ref17_Code.mk p1.L_ p1.G_ p1.Fixups_ p1.Pads_ p1.Active_ (if (IntKind.wrap .i64 (p1.Depth_ - (if 100 < (if 0 > p2.N_ then 0 else p2.N_) then 100 else (if 0 > p2.N_ then 0 else p2.N_)))) > 0 then (IntKind.wrap .i64 (p1.Depth_ - (if 100 < (if 0 > p2.N_ then 0 else p2.N_) then 100 else (if 0 > p2.N_ then 0 else p2.N_)))) else 0) p1.Most_ p1.Err_) H15)
  else (if (p2.Kind_ == 10) = true then (bind2 (emit_Code_Pad H p0) fun H21 r19 =>
  bind1 (app 8 ([] : List Int) p1.Pads_) fun v22 =>
  bind1 (app 8 v22 ([-1] : List Int)) fun v24 =>
  law17_others_j2 (T_ref17_Code.mk p1.L_ p1.G_ p1.Fixups_ v24 p1.Active_ p1.Depth_ p1.Most_ p1.Err_) H21)
  else (if (p2.Kind_ == 11) = true then (if ((decide (p2.A_ ≥ 0)) && (decide (p2.A_ < (p1.Pads_.length : Int)))) = true then (bind1 (emit_Code_Guard H p0 p2.A_) fun H34 =>
  bind1 (app 8 ([] : List Int) p1.Active_) fun v35 =>
  bind1 (app 8 v35 ([p2.A_] : List Int)) fun v37 =>
  law17_others_j4 (T_ref17_Code.mk p1.L_ p1.G_ p1.Fixups_ p1.Pads_ v37 p1.Depth_ p1.Most_ p1.Err_) H34)
  else (law17_others_j4 p1 H))
  else (if (p2.Kind_ == 12) = true then (bind1 (emit_Code_Unguard H p0) fun H43 =>
  bind1 (cut p1.Active_ 0 (if (IntKind.wrap .i64 ((p1.Active_.length : Int) - 1)) > 0 then (IntKind.wrap .i64 ((p1.Active_.length : Int) - 1)) else 0)) fun v44 =>
  law17_others_j5 (T_ref17_Code.mk p1.L_ p1.G_ p1.Fixups_ p1.Pads_ v44 p1.Depth_ p1.Most_ p1.Err_) H43)
  else (if (p2.Kind_ == 13) = true then (bind1 (emit_Code_Set H p0 p2.A_) fun H48 =>
  if ((decide (p2.A_ ≥ 0)) && (decide (p2.A_ < (p1.Pads_.length : Int)))) = true then (bind1 (app 8 ([] : List Int) p1.Pads_) fun v52 =>
  bind1 (gi v52 p2.A_) fun x54 =>
  bind1 (si v52 p2.A_ (p1.L_.length : Int)) fun v56 =>
  law17_others_j6 H48 (T_ref17_Code.mk p1.L_ p1.G_ p1.Fixups_ v56 p1.Active_ p1.Depth_ p1.Most_ p1.Err_))
  else (law17_others_j6 H48 p1))
  else (if (p2.Kind_ == 15) = true then (bind1 (emit_Code_Fail H p0 (IntKind.wrap .i64 (1 + (bitsOf .and .i64 p2.C_ 7)))) fun H60 =>
  bind1 (ref17_Fail p1 (IntKind.wrap .i64 (1 + (bitsOf .and .i64 p2.C_ 7)))) fun r61 =>
  some (H60, r61))
  else (some (H, p1)))))))))
theorem ok_law17_others (H : Heap) {p0 : Ptr} {p1 : T_ref17_Code} {p2 : T_law17_Op} {ra : T_ref17_Code} {Hr : Heap} (hF : law17_others H p0 p1 p2 = some (Hr, ra)) : evS X 16 [.one .top (Ptr.av p0), .agg (m1_ref17_Code p1), .agg (m0_law17_Op p2)] H = some (.agg (m1_ref17_Code ra), Hr) := by
 let E2 : EN := (133, .one (.own 0) (.sl 5 (List.map e_ref02_Instr p1.L_)))
 let B3 : EB := (4, (m1_ref17_Code p1))
 let B4 : EB := (5, (m0_law17_Op p2))
 let B5 : EB := (6, [((.own 1), .sl 5 (List.map e_ref02_Instr ([] : List T_ref02_Instr))), ((.own 1), .sl 1 (List.map (eI .i64) ([] : List Int))), ((.own 1), .sl 4 (List.map e_api_Fixup ([] : List T_api_Fixup))), ((.own 1), .sl 1 (List.map (eI .i64) ([] : List Int))), ((.own 1), .sl 1 (List.map (eI .i64) ([] : List Int))), (.top, .int .i64 0), (.top, .int .i64 0), (.top, .int .i64 0)])
 let E6 : EN := (6, vl 6 0)
 let E7 : EN := (23, vi (p1.L_.length : Int))
 let E10 : EN := (7, vi (if 100 < (if 0 > p2.N_ then 0 else p2.N_) then 100 else (if 0 > p2.N_ then 0 else p2.N_)))
 let E12 : EN := (64, .one (.own 0) (.sl 1 (List.map (eI .i64) p1.Pads_)))
 let E14 : EN := (65, .one .top .junk)
 let E15 : EN := (66, .one .top .junk)
 let E17 : EN := (79, vi (p1.Pads_.length : Int))
 let E19 : EN := (87, vl 4 4)
 let E22 : EN := (103, vi (p1.Active_.length : Int))
 let E24 : EN := (122, vi (p1.Pads_.length : Int))
 let E26 : EN := (126, vl 4 3)
 let E27 : EN := (127, .one (.own 0) (.sl 1 (List.map (eI .i64) p1.Pads_)))
 let E28 : EN := (125, .one .top .junk)
 let E30 : EN := (134, vi (p1.L_.length : Int))
 let E31 : EN := (135, .one .top (.el (.tmp 8) (Int.toNat p2.A_) 0))
 let L33 : List EN := [(4, vl 4 0), (5, vl 5 0), E6]
 let L34 : List EN := [(90, vl 5 7), (91, vi p2.A_)]
 let L35 : List EN := [E19, (88, .one (.own 0) (.sl 1 (List.map (eI .i64) p1.Active_)))]
 let L36 : List EN := L33 ++ [(86, .one .top .junk)] ++ L35
 let L37 : Ptr → List EN := fun z0 => [(0, vp z0)] ++ L33
 let L38 : List EN := [(4, vl 4 0), E6]
 let L39 : List EN := L36 ++ [(89, .one .top .junk)] ++ L34 ++ [(92, .one .top .junk)]
 let L40 : List EN := L34 ++ [(92, .one (.own 1) (.sl 1 (List.map (eI .i64) ([p2.A_] : List Int))))]
 let L43 : Ptr → List EN := fun z0 => (L37 z0) ++ [(10, vi p2.Kind_)]
 let L44 : Ptr → List EN := fun z0 => [(0, vp z0)] ++ L38
 let L45 : List EN := L33 ++ [(86, .one (.own 1) (.sl 1 (List.map (eI .i64) ([] : List Int))))]
 let L46 : List EN := L33 ++ [(114, vl 5 7), (115, vi p2.A_)]
 let L47 : Ptr → List EN := fun z0 => (L37 z0) ++ [(71, vl 5 7), (72, vi p2.A_)]
 let L49 : List EN := L38 ++ [(99, vl 4 4), (100, .one (.own 0) (.sl 1 (List.map (eI .i64) p1.Active_))), (101, vl 4 4), (102, .one (.own 0) (.sl 1 (List.map (eI .i64) p1.Active_)))]
 let L50 : List EN := L33 ++ [(18, .agg (m1_ref17_Code p1)), (19, vl 5 7), (20, vi p2.A_), (21, vl 4 0), (22, .one (.own 0) (.sl 5 (List.map e_ref02_Instr p1.L_)))]
 let L51 : List EN := L38 ++ [(62, .one .top .junk), (63, vl 4 3), E12]
 let L52 : List EN := L45 ++ L35 ++ L40
 let L54 : List EN := L49 ++ [E22, (104, vi (IntKind.wrap .i64 ((p1.Active_.length : Int) - 1))), (105, vi (if (IntKind.wrap .i64 ((p1.Active_.length : Int) - 1)) > 0 then (IntKind.wrap .i64 ((p1.Active_.length : Int) - 1)) else 0))]
 let L55 : List EN := L33 ++ [(37, .agg (m1_ref17_Code p1)), (38, vl 5 7), (39, vi p2.A_), (40, vl 5 8), (41, vi p2.B_)]
 let L56 : List EN := L33 ++ [(146, .agg (m1_ref17_Code p1)), (147, vl 5 9), (148, vi p2.C_), (149, vi (bitsOf .and .i64 p2.C_ 7)), (150, vi (IntKind.wrap .i64 (1 + (bitsOf .and .i64 p2.C_ 7))))]
 let L57 : List EN := L46 ++ [(116, vT), (117, vT), (118, vl 5 7), (119, vi p2.A_), (120, vl 4 3), (121, .one (.own 0) (.sl 1 (List.map (eI .i64) p1.Pads_)))]
 let L58 : Ptr → List EN := fun z0 => (L47 z0) ++ [(73, vT), (74, vT), (75, vl 5 7), (76, vi p2.A_), (77, vl 4 3), (78, .one (.own 0) (.sl 1 (List.map (eI .i64) p1.Pads_)))]
 let L59 : List EN := L50 ++ [E7, (24, vl 5 7), (25, vi p2.A_), (26, vi (IntKind.wrap .i64 ((p1.L_.length : Int) - p2.A_))), (27, vi (IntKind.wrap .i64 ((IntKind.wrap .i64 ((p1.L_.length : Int) - p2.A_)) - 1)))]
 let L60 : Ptr → List EN := fun z0 => (L44 z0) ++ [E10, (49, vp z0), (50, vi (if 100 < (if 0 > p2.N_ then 0 else p2.N_) then 100 else (if 0 > p2.N_ then 0 else p2.N_)))]
 let L61 : Ptr → List EN := fun z0 => (L37 z0) ++ [(14, vp z0), (15, vl 5 7), (16, vi p2.A_)]
 let L62 : Ptr → List EN := fun z0 => (L37 z0) ++ [(31, vp z0), (32, vl 5 7), (33, vi p2.A_), (34, vl 5 8), (35, vi p2.B_)]
 let L63 : Ptr → List EN := fun z0 => (L37 z0) ++ [(82, vp z0), (83, vl 5 7), (84, vi p2.A_)]
 let L64 : Ptr → List EN := fun z0 => (L37 z0) ++ [(110, vp z0), (111, vl 5 7), (112, vi p2.A_)]
 let L65 : Ptr → List EN := fun z0 => (L37 z0) ++ [(140, vp z0), (141, vl 5 9), (142, vi p2.C_), (143, vi (bitsOf .and .i64 p2.C_ 7)), (144, vi (IntKind.wrap .i64 (1 + (bitsOf .and .i64 p2.C_ 7))))]
 refine yf Try.func16 false ⟨[(0, vp p0), (1, .agg (m1_ref17_Code p1)), (2, .agg (m0_law17_Op p2))], [], H⟩ ?_
 unfold law17_others at hF
 refine ysg ⟨(L37 p0), [B3, B4, B5], H⟩ ?_ (h := (by generalize p0 = qp0; cases qp0 <;> kernel_rfl))
 refine w_seq ?_
 refine ysg ⟨(L43 p0), [B3, B4, B5], H⟩ ?_ (h := (by generalize p0 = qp0; cases qp0 <;> kernel_rfl))
 refine w_block ?_
 refine ysg ⟨(L43 p0) ++ [(12, vb (p2.Kind_ == 3))], [B3, B4, B5], H⟩ ?_ (h := (by generalize p0 = qp0; cases qp0 <;> kernel_rfl))
 rcases if_inv hF with ⟨h1, hF⟩ | ⟨h1, hF⟩
 refine yT h1 ⟨(L37 p0), [B3, B4, B5], H⟩ ?_
 refine w_seq ?_
 obtain ⟨H3, c2, hF⟩ := bind1_inv hF
 refine w_regO ⟨L33, [B3, B4, B5], H3⟩ ?_ ?_
 refine yr 3 ⟨(L61 p0), [B3, B4, B5], H⟩ ?_ (h := (by generalize p0 = qp0; cases qp0 <;> kernel_rfl))
 refine o_one ⟨(L61 p0) ++ [(17, vN)], [B3, B4, B5], H3⟩ (yc (some 17) false false (⟨(L61 p0), [B3, B4, B5], H⟩ : St) (ok_emit_Code_Land H c2) (hr := (by generalize p0 = qp0; cases qp0 <;> kernel_rfl)) (hs := (by generalize p0 = qp0; cases qp0 <;> kernel_rfl))) ?_
 exact ye
 refine w_seq ?_
 obtain ⟨r4, c5, hF⟩ := bind1_inv hF
 let E8 : EN := (28, .agg (m1_ref17_Code r4))
 refine w_regO ⟨[E6], [(6, (m1_ref17_Code r4))], H3⟩ ?_ ?_
 refine yr 5 ⟨L50, [B3, B4, B5], H3⟩ ?_
 refine o_one ⟨L50 ++ [E7], [B3, B4, B5], H3⟩ (yl (⟨L50, [B3, B4, B5], H3⟩ : St) p1.L_ e_ref02_Instr (some 23)) ?_
 refine yr 4 ⟨L59, [B3, B4, B5], H3⟩ ?_
 refine o_one ⟨L59 ++ [E8], [B3, B4, B5], H3⟩ (yc (some 28) true false (⟨L59, [B3, B4, B5], H3⟩ : St) (ok_ref17_Patch H3 c5)) ?_
 refine yr 1 ⟨L59 ++ [E8], [B3, B4, (6, (m1_ref17_Code r4))], H3⟩ ?_
 exact ye
 refine w_ret ?_
 obtain ⟨e0, e1⟩ := some2_inv hF
 subst e0
 subst e1
 exact yi (.agg (m1_ref17_Code r4))
 refine yF h1 ⟨(L43 p0), [B3, B4, B5], H⟩ ?_
 refine ysg ⟨(L43 p0) ++ [(29, vb (p2.Kind_ == 5))], [B3, B4, B5], H⟩ ?_ (h := (by generalize p0 = qp0; cases qp0 <;> kernel_rfl))
 rcases if_inv hF with ⟨h6, hF⟩ | ⟨h6, hF⟩
 refine yT h6 ⟨(L37 p0), [B3, B4, B5], H⟩ ?_
 refine w_seq ?_
 obtain ⟨H8, c7, hF⟩ := bind1_inv hF
 refine w_regO ⟨L33, [B3, B4, B5], H8⟩ ?_ ?_
 refine yr 5 ⟨(L62 p0), [B3, B4, B5], H⟩ ?_ (h := (by generalize p0 = qp0; cases qp0 <;> kernel_rfl))
 refine o_one ⟨(L62 p0) ++ [(36, vN)], [B3, B4, B5], H8⟩ (yc (some 36) false false (⟨(L62 p0), [B3, B4, B5], H⟩ : St) (ok_emit_Code_Patch H c7) (hr := (by generalize p0 = qp0; cases qp0 <;> kernel_rfl)) (hs := (by generalize p0 = qp0; cases qp0 <;> kernel_rfl))) ?_
 exact ye
 refine w_seq ?_
 obtain ⟨r9, c10, hF⟩ := bind1_inv hF
 let E9 : EN := (42, .agg (m1_ref17_Code r9))
 refine w_regO ⟨[E6], [(6, (m1_ref17_Code r9))], H8⟩ ?_ ?_
 refine yr 5 ⟨L55, [B3, B4, B5], H8⟩ ?_
 refine o_one ⟨L55 ++ [E9], [B3, B4, B5], H8⟩ (yc (some 42) true false (⟨L55, [B3, B4, B5], H8⟩ : St) (ok_ref17_Patch H8 c10)) ?_
 refine yr 1 ⟨L55 ++ [E9], [B3, B4, (6, (m1_ref17_Code r9))], H8⟩ ?_
 exact ye
 refine w_ret ?_
 obtain ⟨e0, e1⟩ := some2_inv hF
 subst e0
 subst e1
 exact yi (.agg (m1_ref17_Code r9))
 refine yF h6 ⟨(L43 p0), [B3, B4, B5], H⟩ ?_
 refine ysg ⟨(L43 p0) ++ [(43, vb (p2.Kind_ == 9))], [B3, B4, B5], H⟩ ?_ (h := (by generalize p0 = qp0; cases qp0 <;> kernel_rfl))
 refine w_join (α := (T_ref17_Code × Heap)) (fun x => (⟨L38, [(4, (m1_ref17_Code x.1)), B5], x.2⟩ : St)) (fun x => law17_others_j1 x.1 x.2 = some (Hr, ra)) ?_ ?_
 rintro ⟨j11, H12⟩ hF
 replace hF : law17_others_j1 j11 H12 = some (Hr, ra) := hF
 unfold law17_others_j1 at hF
 refine ysg ⟨[E6], [(6, (m1_ref17_Code j11))], H12⟩ ?_
 refine w_ret ?_
 obtain ⟨e0, e1⟩ := some2_inv hF
 subst e0
 subst e1
 exact yi (.agg (m1_ref17_Code j11))
 rcases if_inv hF with ⟨h13, hF⟩ | ⟨h13, hF⟩
 refine yT h13 ⟨(L37 p0), [B3, B4, B5], H⟩ ?_
 refine ysg ⟨(L44 p0) ++ [E10], [B3, B5], H⟩ ?_ (h := (by generalize p0 = qp0; cases qp0 <;> kernel_rfl))
 refine w_seq ?_
 obtain ⟨H15, c14, hF⟩ := bind1_inv hF
 refine w_regO ⟨L38 ++ [E10], [B3, B5], H15⟩ ?_ ?_
 refine yr 2 ⟨(L60 p0), [B3, B5], H⟩ ?_ (h := (by generalize p0 = qp0; cases qp0 <;> kernel_rfl))
 refine o_one ⟨(L60 p0) ++ [(51, vN)], [B3, B5], H15⟩ (yc (some 51) false false (⟨(L60 p0), [B3, B5], H⟩ : St) (ok_emit_Code_Drop H c14) (hr := (by generalize p0 = qp0; cases qp0 <;> kernel_rfl)) (hs := (by generalize p0 = qp0; cases qp0 <;> kernel_rfl))) ?_
 exact ye
 refine yg ⟨L38, [(4, [((.own 0), .sl 5 (List.map e_ref02_Instr p1.L_)), ((.own 0), .sl 1 (List.map (eI .i64) p1.G_)), ((.own 0), .sl 4 (List.map e_api_Fixup p1.Fixups_)), ((.own 0), .sl 1 (List.map (eI .i64) p1.Pads_)), ((.own 0), .sl 1 (List.map (eI .i64) p1.Active_)), (.top, .int .i64 (if (IntKind.wrap .i64 (p1.Depth_ - (if 100 < (if 0 > p2.N_ then 0 else p2.N_) then 100 else (if 0 > p2.N_ then 0 else p2.N_)))) > 0 then (IntKind.wrap .i64 (p1.Depth_ - (if 100 < (if 0 > p2.N_ then 0 else p2.N_) then 100 else (if 0 > p2.N_ then 0 else p2.N_)))) else 0)), (.top, .int .i64 p1.Most_), (.top, .int .i64 p1.Err_)]), B5], H15⟩ ?_
 exact ⟨((T_ref17_Code.mk p1.L_ p1.G_ p1.Fixups_ p1.Pads_ p1.Active_ (if (IntKind.wrap .i64 (p1.Depth_ - (if 100 < (if 0 > p2.N_ then 0 else p2.N_) then 100 else (if 0 > p2.N_ then 0 else p2.N_)))) > 0 then (IntKind.wrap .i64 (p1.Depth_ - (if 100 < (if 0 > p2.N_ then 0 else p2.N_) then 100 else (if 0 > p2.N_ then 0 else p2.N_)))) else 0) p1.Most_ p1.Err_), H15), hF, (by kernel_rfl)⟩
 refine yF h13 ⟨(L43 p0), [B3, B4, B5], H⟩ ?_
 refine ysg ⟨(L43 p0) ++ [(58, vb (p2.Kind_ == 10))], [B3, B4, B5], H⟩ ?_ (h := (by generalize p0 = qp0; cases qp0 <;> kernel_rfl))
 refine w_join (α := (T_ref17_Code × Heap)) (fun x => (⟨L38, [(4, (m1_ref17_Code x.1)), B5], x.2⟩ : St)) (fun x => law17_others_j2 x.1 x.2 = some (Hr, ra)) ?_ ?_
 rintro ⟨j16, H17⟩ hF
 replace hF : law17_others_j2 j16 H17 = some (Hr, ra) := hF
 unfold law17_others_j2 at hF
 exact ⟨(j16, H17), hF, (by kernel_rfl)⟩
 rcases if_inv hF with ⟨h18, hF⟩ | ⟨h18, hF⟩
 refine yT h18 ⟨(L44 p0), [B3, B5], H⟩ ?_
 refine w_seq ?_
 obtain ⟨H21, r19, c20, hF⟩ := bind2_inv hF
 refine w_regO ⟨L38, [B3, B5], H21⟩ ?_ ?_
 refine yr 1 ⟨(L44 p0) ++ [(60, vp p0)], [B3, B5], H⟩ ?_ (h := (by generalize p0 = qp0; cases qp0 <;> kernel_rfl))
 refine o_one ⟨(L44 p0) ++ [(60, vp p0), (61, vi r19)], [B3, B5], H21⟩ (yc (some 61) false false (⟨(L44 p0) ++ [(60, vp p0)], [B3, B5], H⟩ : St) (ok_emit_Code_Pad H c20) (hr := (by generalize p0 = qp0; cases qp0 <;> kernel_rfl)) (hs := (by generalize p0 = qp0; cases qp0 <;> kernel_rfl))) ?_
 exact ye
 obtain ⟨v22, h23, hF⟩ := bind1_inv hF
 let E13 : EN := (65, .one (.own 1) (.sl 1 (List.map (eI .i64) v22)))
 obtain ⟨v24, h25, hF⟩ := bind1_inv hF
 let B11 : EB := (4, [((.own 0), .sl 5 (List.map e_ref02_Instr p1.L_)), ((.own 0), .sl 1 (List.map (eI .i64) p1.G_)), ((.own 0), .sl 4 (List.map e_api_Fixup p1.Fixups_)), ((.own 0), .sl 1 (List.map (eI .i64) v24)), ((.own 0), .sl 1 (List.map (eI .i64) p1.Active_)), (.top, .int .i64 p1.Depth_), (.top, .int .i64 p1.Most_), (.top, .int .i64 p1.Err_)])
 let E16 : EN := (67, .one (.own 0) (.sl 1 (List.map (eI .i64) v24)))
 refine w_regO ⟨L38, [B11, B5], H21⟩ ?_ ?_
 refine yr 3 ⟨L38 ++ [(62, .one (.own 1) (.sl 1 (List.map (eI .i64) ([] : List Int)))), (63, vl 4 3), E12], [B3, B5], H21⟩ ?_
 refine o_one ⟨L51 ++ [E13], [B3, B5], H21⟩ (st_app (X := X) (⟨L51, [B3, B5], H21⟩ : St) 8 h23 26 26 3 1 0 [(.top, .int .i64 0)] (.own 0) (eI .i64) 0 (some 65) (by kernel_rfl) (by kernel_rfl) (by kernel_rfl) (by kernel_rfl) (by kernel_rfl) (by kernel_rfl) (by kernel_rfl) (by kernel_rfl) (by kernel_rfl) (fun _ => rfl) (by kernel_rfl)) ?_
 refine yr 1 ⟨L51 ++ [E13, (66, .one (.own 1) (.sl 1 (List.map (eI .i64) ([-1] : List Int))))], [B3, B5], H21⟩ ?_
 refine o_one ⟨L51 ++ [E14, E15, E16], [B3, B5], H21⟩ (st_appZ (X := X) (⟨L51 ++ [E14, E15], [B3, B5], H21⟩ : St) 8 h25 26 26 3 1 0 [(.top, .int .i64 0)] (.own 1) (eI .i64) 0 (some 67) (by kernel_rfl) (by kernel_rfl) (by kernel_rfl) (by kernel_rfl) (by kernel_rfl) (by kernel_rfl) (by kernel_rfl) (by kernel_rfl) (by kernel_rfl) (fun _ => rfl) (by kernel_rfl)) ?_
 refine yr 2 ⟨L51 ++ [E14, E15, E16, (68, vl 4 3)], [B11, B5], H21⟩ ?_
 exact ye
 exact ⟨((T_ref17_Code.mk p1.L_ p1.G_ p1.Fixups_ v24 p1.Active_ p1.Depth_ p1.Most_ p1.Err_), H21), hF, (by kernel_rfl)⟩
 refine yF h18 ⟨(L43 p0), [B3, B4, B5], H⟩ ?_
 refine ysg ⟨(L43 p0) ++ [(69, vb (p2.Kind_ == 11))], [B3, B4, B5], H⟩ ?_ (h := (by generalize p0 = qp0; cases qp0 <;> kernel_rfl))
 refine w_join (α := (T_ref17_Code × Heap)) (fun x => (⟨L38, [(4, (m1_ref17_Code x.1)), B5], x.2⟩ : St)) (fun x => law17_others_j3 x.1 x.2 = some (Hr, ra)) ?_ ?_
 rintro ⟨j26, H27⟩ hF
 replace hF : law17_others_j3 j26 H27 = some (Hr, ra) := hF
 unfold law17_others_j3 at hF
 exact ⟨(j26, H27), hF, (by kernel_rfl)⟩
 rcases if_inv hF with ⟨h28, hF⟩ | ⟨h28, hF⟩
 refine yT h28 ⟨(L37 p0), [B3, B4, B5], H⟩ ?_
 refine yso ⟨(L37 p0) ++ [(81, vb ((decide (p2.A_ ≥ 0)) && (decide (p2.A_ < (p1.Pads_.length : Int)))))], [B3, B4, B5], H⟩ ?_ ?_
 refine yr 4 ⟨(L47 p0) ++ [(73, vb (decide (p2.A_ ≥ 0))), (74, vb (decide (p2.A_ ≥ 0)))], [B3, B4, B5], H⟩ ?_ (h := (by generalize p0 = qp0; cases qp0 <;> kernel_rfl))
 rcases bool_cases (decide (p2.A_ ≥ 0)) with h29 | h29
 refine o_eq (congrArg (fun q => (⟨(L47 p0) ++ [(73, vb q), (74, vb q)], [B3, B4, B5], H⟩ : St)) h29) ?_
 refine yr 4 ⟨(L58 p0), [B3, B4, B5], H⟩ ?_ (h := (by generalize p0 = qp0; cases qp0 <;> kernel_rfl))
 refine o_one ⟨(L58 p0) ++ [E17], [B3, B4, B5], H⟩ (st_len (⟨(L58 p0), [B3, B4, B5], H⟩ : St) p1.Pads_ (eI .i64) (some 79) (by generalize p0 = qp0; cases qp0 <;> kernel_rfl) (by generalize p0 = qp0; cases qp0 <;> kernel_rfl)) ?_
 refine yr 2 ⟨(L58 p0) ++ [E17, (80, vb (decide (p2.A_ < (p1.Pads_.length : Int)))), (81, vb (decide (p2.A_ < (p1.Pads_.length : Int))))], [B3, B4, B5], H⟩ ?_ (h := (by generalize p0 = qp0; cases qp0 <;> kernel_rfl))
 refine o_eq2 (congrArg (fun q0 => (⟨(L37 p0) ++ [(81, vb q0)], [B3, B4, B5], H⟩ : St)) (show (decide (p2.A_ < (p1.Pads_.length : Int))) = ((decide (p2.A_ ≥ 0)) && (decide (p2.A_ < (p1.Pads_.length : Int)))) by simp [h29])) ?_
 exact ye
 refine o_eq (congrArg (fun q => (⟨(L47 p0) ++ [(73, vb q), (74, vb q)], [B3, B4, B5], H⟩ : St)) h29) ?_
 refine yr 7 ⟨(L47 p0) ++ [(73, vF), (74, vF), (75, vN), (76, vN), (77, vN), (78, vN), (79, vN), (80, vN), (81, vF)], [B3, B4, B5], H⟩ ?_ (h := (by generalize p0 = qp0; cases qp0 <;> kernel_rfl))
 refine o_eq2 (congrArg (fun q0 => (⟨(L37 p0) ++ [(81, vb q0)], [B3, B4, B5], H⟩ : St)) (show false = ((decide (p2.A_ ≥ 0)) && (decide (p2.A_ < (p1.Pads_.length : Int)))) by simp [h29])) ?_
 exact ye
 refine w_join (α := (T_ref17_Code × Heap)) (fun x => (⟨L38, [(4, (m1_ref17_Code x.1)), B5], x.2⟩ : St)) (fun x => law17_others_j4 x.1 x.2 = some (Hr, ra)) ?_ ?_
 rintro ⟨j30, H31⟩ hF
 replace hF : law17_others_j4 j30 H31 = some (Hr, ra) := hF
 unfold law17_others_j4 at hF
 exact ⟨(j30, H31), hF, (by kernel_rfl)⟩
 rcases if_inv hF with ⟨h32, hF⟩ | ⟨h32, hF⟩
 refine yT h32 ⟨(L37 p0), [B3, B4, B5], H⟩ ?_
 refine w_seq ?_
 obtain ⟨H34, c33, hF⟩ := bind1_inv hF
 refine w_regO ⟨L33, [B3, B4, B5], H34⟩ ?_ ?_
 refine yr 3 ⟨(L63 p0), [B3, B4, B5], H⟩ ?_ (h := (by generalize p0 = qp0; cases qp0 <;> kernel_rfl))
 refine o_one ⟨(L63 p0) ++ [(85, vN)], [B3, B4, B5], H34⟩ (yc (some 85) false false (⟨(L63 p0), [B3, B4, B5], H⟩ : St) (ok_emit_Code_Guard H c33) (hr := (by generalize p0 = qp0; cases qp0 <;> kernel_rfl)) (hs := (by generalize p0 = qp0; cases qp0 <;> kernel_rfl))) ?_
 exact ye
 obtain ⟨v35, h36, hF⟩ := bind1_inv hF
 let E20 : EN := (89, .one (.own 1) (.sl 1 (List.map (eI .i64) v35)))
 let L48 : List EN := L36 ++ [E20] ++ L40
 obtain ⟨v37, h38, hF⟩ := bind1_inv hF
 let B18 : EB := (4, [((.own 0), .sl 5 (List.map e_ref02_Instr p1.L_)), ((.own 0), .sl 1 (List.map (eI .i64) p1.G_)), ((.own 0), .sl 4 (List.map e_api_Fixup p1.Fixups_)), ((.own 0), .sl 1 (List.map (eI .i64) p1.Pads_)), ((.own 0), .sl 1 (List.map (eI .i64) v37)), (.top, .int .i64 p1.Depth_), (.top, .int .i64 p1.Most_), (.top, .int .i64 p1.Err_)])
 let L41 : List EN := L39 ++ [(93, .one (.own 0) (.sl 1 (List.map (eI .i64) v37)))]
 let L42 : List EN := L41 ++ [(94, vl 4 4)]
 let K68 : Sch := .last 2 (.last 3 (.last 7 (.take 8 (.last 9 .done))))
 let K69 : Sch := .last 0 (.last 3 (.last 7 (.take 8 (.last 9 .done))))
 let K67 : Sch := .alt 3 (.last 6 (.last 7 (.take 8 (.last 9 .done)))) (.last 6 (.last 3 (.last 7 (.take 8 (.last 9 .done)))))
 refine w_regD (.take 1 (.take 4 (.take 5 (.alt 0 (.alt 2 K67 (.last 6 K68)) (.alt 2 (.alt 0 K67 (.last 6 K69)) (.last 6 (.alt 0 K68 (.last 2 K69)))))))) (by kernel_rfl) (⟨L38, [B18, B5], H34⟩ : St) ?_ ?_
 refine ydk 3 ⟨L33 ++ [E19] ++ L34, [B3, B4, B5], H34⟩ ?_
 refine q_in (⟨L42, [B18, B4, B5], H34⟩ : St) ?_ ?_
 refine q_alt ⟨L45 ++ [E19] ++ L34, [B3, B4, B5], H34⟩ (by kernel_rfl) ?_ ?_
 refine q_alt ⟨L45 ++ L35 ++ L34, [B3, B4, B5], H34⟩ (by kernel_rfl) ?_ ?_
 refine q_alt ⟨L36 ++ [E20] ++ L34, [B3, B4, B5], H34⟩ (st_app (X := X) (⟨L36 ++ L34, [B3, B4, B5], H34⟩ : St) 8 h36 26 26 3 1 0 [(.top, .int .i64 0)] (.own 0) (eI .i64) 0 (some 89) (by kernel_rfl) (by kernel_rfl) (by kernel_rfl) (by kernel_rfl) (by kernel_rfl) (by kernel_rfl) (by kernel_rfl) (by kernel_rfl) (by kernel_rfl) (fun _ => rfl) (by kernel_rfl)) ?_ ?_
 refine yql ⟨L48, [B3, B4, B5], H34⟩ ?_
 refine q_last ⟨L41, [B3, B4, B5], H34⟩ (st_appZ (X := X) (⟨L39, [B3, B4, B5], H34⟩ : St) 8 h38 26 26 3 1 0 [(.top, .int .i64 0)] (.own 1) (eI .i64) 0 (some 93) (by kernel_rfl) (by kernel_rfl) (by kernel_rfl) (by kernel_rfl) (by kernel_rfl) (by kernel_rfl) (by kernel_rfl) (by kernel_rfl) (by kernel_rfl) (fun _ => rfl) (by kernel_rfl)) ?_
 refine yqt ⟨L42, [B3, B4, B5], H34⟩ ?_
 refine yql ⟨L42, [B18, B4, B5], H34⟩ ?_
 exact yqe
 refine yql ⟨L52, [B3, B4, B5], H34⟩ ?_
 refine q_last ⟨L48, [B3, B4, B5], H34⟩ (st_app (X := X) (⟨L36 ++ L40, [B3, B4, B5], H34⟩ : St) 8 h36 26 26 3 1 0 [(.top, .int .i64 0)] (.own 0) (eI .i64) 0 (some 89) (by kernel_rfl) (by kernel_rfl) (by kernel_rfl) (by kernel_rfl) (by kernel_rfl) (by kernel_rfl) (by kernel_rfl) (by kernel_rfl) (by kernel_rfl) (fun _ => rfl) (by kernel_rfl)) ?_
 refine q_last ⟨L41, [B3, B4, B5], H34⟩ (st_appZ (X := X) (⟨L39, [B3, B4, B5], H34⟩ : St) 8 h38 26 26 3 1 0 [(.top, .int .i64 0)] (.own 1) (eI .i64) 0 (some 93) (by kernel_rfl) (by kernel_rfl) (by kernel_rfl) (by kernel_rfl) (by kernel_rfl) (by kernel_rfl) (by kernel_rfl) (by kernel_rfl) (by kernel_rfl) (fun _ => rfl) (by kernel_rfl)) ?_
 refine yqt ⟨L42, [B3, B4, B5], H34⟩ ?_
 refine yql ⟨L42, [B18, B4, B5], H34⟩ ?_
 exact yqe
 refine yql ⟨L45 ++ [E19] ++ L40, [B3, B4, B5], H34⟩ ?_
 refine yql ⟨L52, [B3, B4, B5], H34⟩ ?_
 refine q_last ⟨L48, [B3, B4, B5], H34⟩ (st_app (X := X) (⟨L36 ++ L40, [B3, B4, B5], H34⟩ : St) 8 h36 26 26 3 1 0 [(.top, .int .i64 0)] (.own 0) (eI .i64) 0 (some 89) (by kernel_rfl) (by kernel_rfl) (by kernel_rfl) (by kernel_rfl) (by kernel_rfl) (by kernel_rfl) (by kernel_rfl) (by kernel_rfl) (by kernel_rfl) (fun _ => rfl) (by kernel_rfl)) ?_
 refine q_last ⟨L41, [B3, B4, B5], H34⟩ (st_appZ (X := X) (⟨L39, [B3, B4, B5], H34⟩ : St) 8 h38 26 26 3 1 0 [(.top, .int .i64 0)] (.own 1) (eI .i64) 0 (some 93) (by kernel_rfl) (by kernel_rfl) (by kernel_rfl) (by kernel_rfl) (by kernel_rfl) (by kernel_rfl) (by kernel_rfl) (by kernel_rfl) (by kernel_rfl) (fun _ => rfl) (by kernel_rfl)) ?_
 refine yqt ⟨L42, [B3, B4, B5], H34⟩ ?_
 refine yql ⟨L42, [B18, B4, B5], H34⟩ ?_
 exact yqe
 refine q_alt ⟨L33 ++ L35 ++ L34, [B3, B4, B5], H34⟩ (by kernel_rfl) ?_ ?_
 refine q_alt ⟨L45 ++ L35 ++ L34, [B3, B4, B5], H34⟩ (by kernel_rfl) ?_ ?_
 refine q_alt ⟨L36 ++ [E20] ++ L34, [B3, B4, B5], H34⟩ (st_app (X := X) (⟨L36 ++ L34, [B3, B4, B5], H34⟩ : St) 8 h36 26 26 3 1 0 [(.top, .int .i64 0)] (.own 0) (eI .i64) 0 (some 89) (by kernel_rfl) (by kernel_rfl) (by kernel_rfl) (by kernel_rfl) (by kernel_rfl) (by kernel_rfl) (by kernel_rfl) (by kernel_rfl) (by kernel_rfl) (fun _ => rfl) (by kernel_rfl)) ?_ ?_
 refine yql ⟨L48, [B3, B4, B5], H34⟩ ?_
 refine q_last ⟨L41, [B3, B4, B5], H34⟩ (st_appZ (X := X) (⟨L39, [B3, B4, B5], H34⟩ : St) 8 h38 26 26 3 1 0 [(.top, .int .i64 0)] (.own 1) (eI .i64) 0 (some 93) (by kernel_rfl) (by kernel_rfl) (by kernel_rfl) (by kernel_rfl) (by kernel_rfl) (by kernel_rfl) (by kernel_rfl) (by kernel_rfl) (by kernel_rfl) (fun _ => rfl) (by kernel_rfl)) ?_
 refine yqt ⟨L42, [B3, B4, B5], H34⟩ ?_
 refine yql ⟨L42, [B18, B4, B5], H34⟩ ?_
 exact yqe
 refine yql ⟨L52, [B3, B4, B5], H34⟩ ?_
 refine q_last ⟨L48, [B3, B4, B5], H34⟩ (st_app (X := X) (⟨L36 ++ L40, [B3, B4, B5], H34⟩ : St) 8 h36 26 26 3 1 0 [(.top, .int .i64 0)] (.own 0) (eI .i64) 0 (some 89) (by kernel_rfl) (by kernel_rfl) (by kernel_rfl) (by kernel_rfl) (by kernel_rfl) (by kernel_rfl) (by kernel_rfl) (by kernel_rfl) (by kernel_rfl) (fun _ => rfl) (by kernel_rfl)) ?_
 refine q_last ⟨L41, [B3, B4, B5], H34⟩ (st_appZ (X := X) (⟨L39, [B3, B4, B5], H34⟩ : St) 8 h38 26 26 3 1 0 [(.top, .int .i64 0)] (.own 1) (eI .i64) 0 (some 93) (by kernel_rfl) (by kernel_rfl) (by kernel_rfl) (by kernel_rfl) (by kernel_rfl) (by kernel_rfl) (by kernel_rfl) (by kernel_rfl) (by kernel_rfl) (fun _ => rfl) (by kernel_rfl)) ?_
 refine yqt ⟨L42, [B3, B4, B5], H34⟩ ?_
 refine yql ⟨L42, [B18, B4, B5], H34⟩ ?_
 exact yqe
 refine yql ⟨L33 ++ L35 ++ L40, [B3, B4, B5], H34⟩ ?_
 refine yql ⟨L52, [B3, B4, B5], H34⟩ ?_
 refine q_last ⟨L48, [B3, B4, B5], H34⟩ (st_app (X := X) (⟨L36 ++ L40, [B3, B4, B5], H34⟩ : St) 8 h36 26 26 3 1 0 [(.top, .int .i64 0)] (.own 0) (eI .i64) 0 (some 89) (by kernel_rfl) (by kernel_rfl) (by kernel_rfl) (by kernel_rfl) (by kernel_rfl) (by kernel_rfl) (by kernel_rfl) (by kernel_rfl) (by kernel_rfl) (fun _ => rfl) (by kernel_rfl)) ?_
 refine q_last ⟨L41, [B3, B4, B5], H34⟩ (st_appZ (X := X) (⟨L39, [B3, B4, B5], H34⟩ : St) 8 h38 26 26 3 1 0 [(.top, .int .i64 0)] (.own 1) (eI .i64) 0 (some 93) (by kernel_rfl) (by kernel_rfl) (by kernel_rfl) (by kernel_rfl) (by kernel_rfl) (by kernel_rfl) (by kernel_rfl) (by kernel_rfl) (by kernel_rfl) (fun _ => rfl) (by kernel_rfl)) ?_
 refine yqt ⟨L42, [B3, B4, B5], H34⟩ ?_
 refine yql ⟨L42, [B18, B4, B5], H34⟩ ?_
 exact yqe
 refine yql ⟨L33 ++ [E19] ++ L40, [B3, B4, B5], H34⟩ ?_
 refine q_alt ⟨L45 ++ [E19] ++ L40, [B3, B4, B5], H34⟩ (by kernel_rfl) ?_ ?_
 refine yql ⟨L52, [B3, B4, B5], H34⟩ ?_
 refine q_last ⟨L48, [B3, B4, B5], H34⟩ (st_app (X := X) (⟨L36 ++ L40, [B3, B4, B5], H34⟩ : St) 8 h36 26 26 3 1 0 [(.top, .int .i64 0)] (.own 0) (eI .i64) 0 (some 89) (by kernel_rfl) (by kernel_rfl) (by kernel_rfl) (by kernel_rfl) (by kernel_rfl) (by kernel_rfl) (by kernel_rfl) (by kernel_rfl) (by kernel_rfl) (fun _ => rfl) (by kernel_rfl)) ?_
 refine q_last ⟨L41, [B3, B4, B5], H34⟩ (st_appZ (X := X) (⟨L39, [B3, B4, B5], H34⟩ : St) 8 h38 26 26 3 1 0 [(.top, .int .i64 0)] (.own 1) (eI .i64) 0 (some 93) (by kernel_rfl) (by kernel_rfl) (by kernel_rfl) (by kernel_rfl) (by kernel_rfl) (by kernel_rfl) (by kernel_rfl) (by kernel_rfl) (by kernel_rfl) (fun _ => rfl) (by kernel_rfl)) ?_
 refine yqt ⟨L42, [B3, B4, B5], H34⟩ ?_
 refine yql ⟨L42, [B18, B4, B5], H34⟩ ?_
 exact yqe
 refine yql ⟨L33 ++ L35 ++ L40, [B3, B4, B5], H34⟩ ?_
 refine yql ⟨L52, [B3, B4, B5], H34⟩ ?_
 refine q_last ⟨L48, [B3, B4, B5], H34⟩ (st_app (X := X) (⟨L36 ++ L40, [B3, B4, B5], H34⟩ : St) 8 h36 26 26 3 1 0 [(.top, .int .i64 0)] (.own 0) (eI .i64) 0 (some 89) (by kernel_rfl) (by kernel_rfl) (by kernel_rfl) (by kernel_rfl) (by kernel_rfl) (by kernel_rfl) (by kernel_rfl) (by kernel_rfl) (by kernel_rfl) (fun _ => rfl) (by kernel_rfl)) ?_
 refine q_last ⟨L41, [B3, B4, B5], H34⟩ (st_appZ (X := X) (⟨L39, [B3, B4, B5], H34⟩ : St) 8 h38 26 26 3 1 0 [(.top, .int .i64 0)] (.own 1) (eI .i64) 0 (some 93) (by kernel_rfl) (by kernel_rfl) (by kernel_rfl) (by kernel_rfl) (by kernel_rfl) (by kernel_rfl) (by kernel_rfl) (by kernel_rfl) (by kernel_rfl) (fun _ => rfl) (by kernel_rfl)) ?_
 refine yqt ⟨L42, [B3, B4, B5], H34⟩ ?_
 refine yql ⟨L42, [B18, B4, B5], H34⟩ ?_
 exact yqe
 kernel_rfl
 exact ⟨((T_ref17_Code.mk p1.L_ p1.G_ p1.Fixups_ p1.Pads_ v37 p1.Depth_ p1.Most_ p1.Err_), H34), hF, (by kernel_rfl)⟩
 refine yF h32 ⟨L38, [B3, B5], H⟩ ?_
 refine w_skip ?_
 exact ⟨(p1, H), hF, (by kernel_rfl)⟩
 refine yF h28 ⟨(L43 p0), [B3, B4, B5], H⟩ ?_
 refine ysg ⟨(L43 p0) ++ [(95, vb (p2.Kind_ == 12))], [B3, B4, B5], H⟩ ?_ (h := (by generalize p0 = qp0; cases qp0 <;> kernel_rfl))
 refine w_join (α := (T_ref17_Code × Heap)) (fun x => (⟨L38, [(4, (m1_ref17_Code x.1)), B5], x.2⟩ : St)) (fun x => law17_others_j5 x.1 x.2 = some (Hr, ra)) ?_ ?_
 rintro ⟨j39, H40⟩ hF
 replace hF : law17_others_j5 j39 H40 = some (Hr, ra) := hF
 unfold law17_others_j5 at hF
 exact ⟨(j39, H40), hF, (by kernel_rfl)⟩
 rcases if_inv hF with ⟨h41, hF⟩ | ⟨h41, hF⟩
 refine yT h41 ⟨(L44 p0), [B3, B5], H⟩ ?_
 refine w_seq ?_
 obtain ⟨H43, c42, hF⟩ := bind1_inv hF
 refine w_regO ⟨L38, [B3, B5], H43⟩ ?_ ?_
 refine yr 1 ⟨(L44 p0) ++ [(97, vp p0)], [B3, B5], H⟩ ?_ (h := (by generalize p0 = qp0; cases qp0 <;> kernel_rfl))
 refine o_one ⟨(L44 p0) ++ [(97, vp p0), (98, vN)], [B3, B5], H43⟩ (yc (some 98) false false (⟨(L44 p0) ++ [(97, vp p0)], [B3, B5], H⟩ : St) (ok_emit_Code_Unguard H c42) (hr := (by generalize p0 = qp0; cases qp0 <;> kernel_rfl)) (hs := (by generalize p0 = qp0; cases qp0 <;> kernel_rfl))) ?_
 exact ye
 obtain ⟨v44, h45, hF⟩ := bind1_inv hF
 let B21 : EB := (4, [((.own 0), .sl 5 (List.map e_ref02_Instr p1.L_)), ((.own 0), .sl 1 (List.map (eI .i64) p1.G_)), ((.own 0), .sl 4 (List.map e_api_Fixup p1.Fixups_)), ((.own 0), .sl 1 (List.map (eI .i64) p1.Pads_)), ((.own 0), .sl 1 (List.map (eI .i64) v44)), (.top, .int .i64 p1.Depth_), (.top, .int .i64 p1.Most_), (.top, .int .i64 p1.Err_)])
 let E23 : EN := (106, .one (.own 0) (.sl 1 (List.map (eI .i64) v44)))
 refine w_regO ⟨L38, [B21, B5], H43⟩ ?_ ?_
 refine yr 4 ⟨L49, [B3, B5], H43⟩ ?_
 refine o_one ⟨L49 ++ [E22], [B3, B5], H43⟩ (yl (⟨L49, [B3, B5], H43⟩ : St) p1.Active_ (eI .i64) (some 103)) ?_
 refine yr 2 ⟨L54, [B3, B5], H43⟩ ?_
 refine o_one ⟨L54 ++ [E23], [B3, B5], H43⟩ (st_cut (X := X) (⟨L54, [B3, B5], H43⟩ : St) 26 3 1 h45 (eI .i64) (.own 0) none (some (.tmp 105)) (some 106) (by kernel_rfl) (by kernel_rfl) (by kernel_rfl) (by kernel_rfl) (show bndIs X.P _ _ none _ from rfl) (show (opnd X.P (⟨L54, [B3, B5], H43⟩ : St) 0 (.tmp 105)).bind natOf = some (if (IntKind.wrap .i64 ((p1.Active_.length : Int) - 1)) > 0 then (IntKind.wrap .i64 ((p1.Active_.length : Int) - 1)) else 0) by kernel_rfl) (by kernel_rfl)) ?_
 refine yr 2 ⟨L54 ++ [E23, (107, vl 4 4)], [B21, B5], H43⟩ ?_
 exact ye
 exact ⟨((T_ref17_Code.mk p1.L_ p1.G_ p1.Fixups_ p1.Pads_ v44 p1.Depth_ p1.Most_ p1.Err_), H43), hF, (by kernel_rfl)⟩
 refine yF h41 ⟨(L43 p0), [B3, B4, B5], H⟩ ?_
 refine ysg ⟨(L43 p0) ++ [(108, vb (p2.Kind_ == 13))], [B3, B4, B5], H⟩ ?_ (h := (by generalize p0 = qp0; cases qp0 <;> kernel_rfl))
 rcases if_inv hF with ⟨h46, hF⟩ | ⟨h46, hF⟩
 refine yT h46 ⟨(L37 p0), [B3, B4, B5], H⟩ ?_
 refine w_seq ?_
 obtain ⟨H48, c47, hF⟩ := bind1_inv hF
 refine w_regO ⟨L33, [B3, B4, B5], H48⟩ ?_ ?_
 refine yr 3 ⟨(L64 p0), [B3, B4, B5], H⟩ ?_ (h := (by generalize p0 = qp0; cases qp0 <;> kernel_rfl))
 refine o_one ⟨(L64 p0) ++ [(113, vN)], [B3, B4, B5], H48⟩ (yc (some 113) false false (⟨(L64 p0), [B3, B4, B5], H⟩ : St) (ok_emit_Code_Set H c47) (hr := (by generalize p0 = qp0; cases qp0 <;> kernel_rfl)) (hs := (by generalize p0 = qp0; cases qp0 <;> kernel_rfl))) ?_
 exact ye
 refine yso ⟨L33 ++ [(124, vb ((decide (p2.A_ ≥ 0)) && (decide (p2.A_ < (p1.Pads_.length : Int)))))], [B3, B4, B5], H48⟩ ?_ ?_
 refine yr 4 ⟨L46 ++ [(116, vb (decide (p2.A_ ≥ 0))), (117, vb (decide (p2.A_ ≥ 0)))], [B3, B4, B5], H48⟩ ?_
 rcases bool_cases (decide (p2.A_ ≥ 0)) with h49 | h49
 refine o_eq (congrArg (fun q => (⟨L46 ++ [(116, vb q), (117, vb q)], [B3, B4, B5], H48⟩ : St)) h49) ?_
 refine yr 4 ⟨L57, [B3, B4, B5], H48⟩ ?_
 refine o_one ⟨L57 ++ [E24], [B3, B4, B5], H48⟩ (yl (⟨L57, [B3, B4, B5], H48⟩ : St) p1.Pads_ (eI .i64) (some 122)) ?_
 refine yr 2 ⟨L57 ++ [E24, (123, vb (decide (p2.A_ < (p1.Pads_.length : Int)))), (124, vb (decide (p2.A_ < (p1.Pads_.length : Int))))], [B3, B4, B5], H48⟩ ?_
 refine o_eq2 (congrArg (fun q0 => (⟨L33 ++ [(124, vb q0)], [B3, B4, B5], H48⟩ : St)) (show (decide (p2.A_ < (p1.Pads_.length : Int))) = ((decide (p2.A_ ≥ 0)) && (decide (p2.A_ < (p1.Pads_.length : Int)))) by simp [h49])) ?_
 exact ye
 refine o_eq (congrArg (fun q => (⟨L46 ++ [(116, vb q), (117, vb q)], [B3, B4, B5], H48⟩ : St)) h49) ?_
 refine yr 7 ⟨L46 ++ [(116, vF), (117, vF), (118, vN), (119, vN), (120, vN), (121, vN), (122, vN), (123, vN), (124, vF)], [B3, B4, B5], H48⟩ ?_
 refine o_eq2 (congrArg (fun q0 => (⟨L33 ++ [(124, vb q0)], [B3, B4, B5], H48⟩ : St)) (show false = ((decide (p2.A_ ≥ 0)) && (decide (p2.A_ < (p1.Pads_.length : Int)))) by simp [h49])) ?_
 exact ye
 refine w_join (α := (T_ref17_Code)) (fun x => (⟨L38, [(4, (m1_ref17_Code x)), B5], H48⟩ : St)) (fun x => law17_others_j6 H48 x = some (Hr, ra)) ?_ ?_
 rintro j50 hF
 replace hF : law17_others_j6 H48 j50 = some (Hr, ra) := hF
 unfold law17_others_j6 at hF
 exact ⟨(j50, H48), hF, (by kernel_rfl)⟩
 rcases if_inv hF with ⟨h51, hF⟩ | ⟨h51, hF⟩
 refine yT h51 ⟨L33, [B3, B4, B5], H48⟩ ?_
 refine w_seq ?_
 obtain ⟨v52, h53, hF⟩ := bind1_inv hF
 let E1 : EN := (129, .one .top (.at_ (.tmp 8) 0 ((List.map (eI .i64) v52).length)))
 let E25 : EN := (8, .one (.own 1) (.sl 1 (List.map (eI .i64) v52)))
 let L53 : List EN := L33 ++ [E25, E1, (130, vl 5 7), (131, vi p2.A_), (132, vl 4 0), E2]
 refine w_regO ⟨L33 ++ [E25], [B3, B4, B5], H48⟩ ?_ ?_
 refine yr 3 ⟨L33 ++ [(125, .one (.own 1) (.sl 1 (List.map (eI .i64) ([] : List Int)))), E26, E27], [B3, B4, B5], H48⟩ ?_
 refine o_one ⟨L33 ++ [E28, E26, E27, (128, .one (.own 1) (.sl 1 (List.map (eI .i64) v52)))], [B3, B4, B5], H48⟩ (st_app (X := X) (⟨L33 ++ [E28, E26, E27], [B3, B4, B5], H48⟩ : St) 8 h53 26 26 3 1 0 [(.top, .int .i64 0)] (.own 0) (eI .i64) 0 (some 128) (by kernel_rfl) (by kernel_rfl) (by kernel_rfl) (by kernel_rfl) (by kernel_rfl) (by kernel_rfl) (by kernel_rfl) (by kernel_rfl) (by kernel_rfl) (fun _ => rfl) (by kernel_rfl)) ?_
 refine yr 1 ⟨L33 ++ [E25, E28, E26, E27, (128, .one .top .junk)], [B3, B4, B5], H48⟩ ?_
 exact ye
 refine w_seq ?_
 obtain ⟨x54, h55, hF⟩ := bind1_inv hF
 obtain ⟨v56, h57, hF⟩ := bind1_inv hF
 let E29 : EN := (8, .one (.own 1) (.sl 1 (List.map (eI .i64) v56)))
 let L66 : List EN := L33 ++ [E29, E1, (130, vl 5 7), (131, vi p2.A_), (132, vl 4 0), E2, E30, E31]
 refine w_regO ⟨L38 ++ [E29], [B3, B5], H48⟩ ?_ ?_
 refine yr 5 ⟨L53, [B3, B4, B5], H48⟩ ?_
 refine o_one ⟨L53 ++ [E30], [B3, B4, B5], H48⟩ (yl (⟨L53, [B3, B4, B5], H48⟩ : St) p1.L_ e_ref02_Instr (some 134)) ?_
 refine o_one ⟨L53 ++ [E30, E31], [B3, B4, B5], H48⟩ (st_ixA (X := X) (⟨L53 ++ [E30], [B3, B4, B5], H48⟩ : St) 26 3 1 h55 (eI .i64) (.tmp 8) 0 (List.map (eI .i64) v52).length 0 (some 135) (by kernel_rfl) (by kernel_rfl) (by kernel_rfl) (by kernel_rfl) rfl (List.length_map _) (by kernel_rfl)) ?_
 refine o_one ⟨L66, [B3, B4, B5], H48⟩ (st_stE (X := X) (⟨L53 ++ [E30, E31], [B3, B4, B5], H48⟩ : St) (⟨L66, [B3, B4, B5], H48⟩ : St) ⟨false, []⟩ 3 (.tmp 8) (Int.toNat p2.A_) 0 1 0 (List.map (eI .i64) v52) [.int .i64 x54] ((eI .i64) (p1.L_.length : Int)) (List.map (eI .i64) v56) 1 (vi (p1.L_.length : Int)) (by kernel_rfl) (by kernel_rfl) (by kernel_rfl) (by kernel_rfl) (by kernel_rfl) (by kernel_rfl) (el_at h55) (by kernel_rfl) (by kernel_rfl) (el_put h57) (by kernel_rfl) (by kernel_rfl)) ?_
 exact ye
 refine yg ⟨L38, [(4, [((.own 0), .sl 5 (List.map e_ref02_Instr p1.L_)), ((.own 0), .sl 1 (List.map (eI .i64) p1.G_)), ((.own 0), .sl 4 (List.map e_api_Fixup p1.Fixups_)), ((.own 0), .sl 1 (List.map (eI .i64) v56)), ((.own 0), .sl 1 (List.map (eI .i64) p1.Active_)), (.top, .int .i64 p1.Depth_), (.top, .int .i64 p1.Most_), (.top, .int .i64 p1.Err_)]), B5], H48⟩ ?_
 exact ⟨(T_ref17_Code.mk p1.L_ p1.G_ p1.Fixups_ v56 p1.Active_ p1.Depth_ p1.Most_ p1.Err_), hF, (by kernel_rfl)⟩
 refine yF h51 ⟨L38, [B3, B5], H48⟩ ?_
 refine w_skip ?_
 exact ⟨p1, hF, (by kernel_rfl)⟩
 refine yF h46 ⟨(L43 p0), [B3, B4, B5], H⟩ ?_
 refine ysg ⟨(L37 p0) ++ [(138, vb (p2.Kind_ == 15))], [B3, B4, B5], H⟩ ?_ (h := (by generalize p0 = qp0; cases qp0 <;> kernel_rfl))
 rcases if_inv hF with ⟨h58, hF⟩ | ⟨h58, hF⟩
 refine yT h58 ⟨(L37 p0), [B3, B4, B5], H⟩ ?_
 refine w_seq ?_
 obtain ⟨H60, c59, hF⟩ := bind1_inv hF
 refine w_regO ⟨L33, [B3, B4, B5], H60⟩ ?_ ?_
 refine yr 5 ⟨(L65 p0), [B3, B4, B5], H⟩ ?_ (h := (by generalize p0 = qp0; cases qp0 <;> kernel_rfl))
 refine o_one ⟨(L65 p0) ++ [(145, vN)], [B3, B4, B5], H60⟩ (yc (some 145) false false (⟨(L65 p0), [B3, B4, B5], H⟩ : St) (ok_emit_Code_Fail H c59) (hr := (by generalize p0 = qp0; cases qp0 <;> kernel_rfl)) (hs := (by generalize p0 = qp0; cases qp0 <;> kernel_rfl))) ?_
 exact ye
 refine w_seq ?_
 obtain ⟨r61, c62, hF⟩ := bind1_inv hF
 let E32 : EN := (151, .agg (m1_ref17_Code r61))
 refine w_regO ⟨[E6], [(6, (m1_ref17_Code r61))], H60⟩ ?_ ?_
 refine yr 5 ⟨L56, [B3, B4, B5], H60⟩ ?_
 refine o_one ⟨L56 ++ [E32], [B3, B4, B5], H60⟩ (yc (some 151) true false (⟨L56, [B3, B4, B5], H60⟩ : St) (ok_ref17_Fail H60 c62)) ?_
 refine yr 1 ⟨L56 ++ [E32], [B3, B4, (6, (m1_ref17_Code r61))], H60⟩ ?_
 exact ye
 refine w_ret ?_
 obtain ⟨e0, e1⟩ := some2_inv hF
 subst e0
 subst e1
 exact yi (.agg (m1_ref17_Code r61))
 refine yF h58 ⟨L38, [B3, B5], H⟩ ?_
 refine ysg ⟨[E6], [(6, (m1_ref17_Code p1))], H⟩ ?_
 refine w_ret ?_
 obtain ⟨e0, e1⟩ := some2_inv hF
 subst e0
 subst e1
 exact yi (.agg (m1_ref17_Code p1))
noncomputable def emit_Code_Show (H : Heap) (p0 : Ptr) (p1 : (List Int)) : Option (Heap) :=
  (p0).bnd fun i1 o2 =>
  bind1 (get_emit_Code H i1 o2) fun x4 =>
  bnd (set_emit_Code H i1 o2 (T_emit_Code.mk x4.words_ x4.fixups_ x4.marks_ x4.pads_ p1 x4.depth_ x4.most_ x4.err_)) fun H6 =>
  bind1 (emit_Code_now H6 (Ptr.at i1 o2)) fun r9 =>
  bind1 (ranges_Builder_Mark H6 (Ptr.at i1 (o2 + 2)) (x4.words_.length : Int) r9) fun H12 =>
  some H12
theorem ok_emit_Code_Show (H : Heap) {p0 : Ptr} {p1 : (List Int)} {Hr : Heap} (hF : emit_Code_Show H p0 p1 = some Hr) : evS X 18 [.one .top (Ptr.av p0), .one (.own 1) (.sl 1 (List.map (eI .i64) p1))] H = some (.tup [], Hr) := by
 let E3 : EN := (1, .one .top .junk)
 let E4 : EN := (5, .one (.own 1) (.sl 1 (List.map (eI .i64) p1)))
 refine yf Try.func18 false ⟨[(0, vp p0), (1, .one (.own 1) (.sl 1 (List.map (eI .i64) p1)))], [], H⟩ ?_
 unfold emit_Code_Show at hF
 refine w_seq ?_
 obtain ⟨i1, o2, h3, hF⟩ := pbnd_inv hF
 let E2 : EN := (0, vo i1 o2)
 let E5 : EN := (8, vo i1 o2)
 let E6 : EN := (13, vo i1 o2)
 let L7 : List EN := [E2, E5, (9, vo i1 o2), (10, vo i1 (o2 + 2)), (11, vo i1 o2)]
 let L9 : List EN := [E2, E3, (4, vo i1 o2), (5, .one .top .junk), (6, vo i1 o2), (7, vo i1 (o2 + 4))]
 obtain ⟨x4, V5, hF⟩ := bind1_inv hF
 replace V5 := hgetT_inv V5
 let W1 : Heap := hset H i1 o2 [((.own 1), .sl 1 (List.map (eI .u32) x4.words_)), ((.own 1), .sl 4 (List.map e_api_Fixup x4.fixups_)), ((.own 1), .sl 2 (List.map e_api_Segment x4.marks_.list_)), ((.own 1), .sl 1 (List.map (eI .i64) x4.pads_)), ((.own 1), .sl 1 (List.map (eI .i64) p1)), (.top, .int .i64 x4.depth_), (.top, .int .i64 x4.most_), (.top, .int .i64 x4.err_)]
 let L8 : List EN := L7 ++ [(12, vi (x4.words_.length : Int)), E6]
 obtain ⟨H6, h7, hF⟩ := bnd_inv hF
 have V8 : hget H6 i1 o2 8 = some (o_emit_Code (T_emit_Code.mk x4.words_ x4.fixups_ x4.marks_ x4.pads_ p1 x4.depth_ x4.most_ x4.err_)) := by rw [← h7]; exact hset_get V5 rfl
 refine w_regO ⟨[E2], [], H6⟩ ?_ ?_
 refine yr 2 ⟨[(0, vp p0), E3, (4, vp p0), E4], [], H⟩ ?_ (h := (by generalize p0 = qp0; cases qp0 <;> kernel_rfl))
 refine o_eq (congrArg (fun q => (⟨[(0, vp q), E3, (4, vp q), E4], [], H⟩ : St)) h3) ?_
 refine yr 1 ⟨[E2, E3, (4, vo i1 o2), E4, (6, vo i1 o2)], [], H⟩ ?_
 refine yr 1 ⟨[E2, E3, (4, vo i1 o2), E4, (6, vo i1 o2), (7, vo i1 (o2 + 4))], [], H⟩ ?_
 refine o_one ⟨L9, [], W1⟩ (st_st (X := X) (lc := []) (h2 := W1) (⟨L9, [], H⟩ : St) 26 V5 4 1 (.one (.own 1) (.sl 1 (List.map (eI .i64) p1))) (by kernel_rfl) (by kernel_rfl) (by kernel_rfl) (by kernel_rfl) (by kernel_rfl) (by kernel_rfl) (hset_sub0 V5 (Nat.le_of_ble_eq_true rfl)) (by kernel_rfl)) ?_
 refine o_eq (congrArg (fun q => (⟨L9, [], q⟩ : St)) h7) ?_
 exact ye
 obtain ⟨r9, c10, hF⟩ := bind1_inv hF
 obtain ⟨H12, c11, hF⟩ := bind1_inv hF
 refine w_regD (.take 0 (.take 1 (.take 2 (.take 3 (.take 5 (.last 4 (.last 6 (.last 7 .done)))))))) (by kernel_rfl) (⟨[], [], H12⟩ : St) ?_ ?_
 refine ydk 5 ⟨L7 ++ [E6], [], H6⟩ ?_
 refine d_last ⟨L8, [], H6⟩ (yc (some 12) true false (⟨L7 ++ [E6], [], H6⟩ : St) (len_emit_Code_Here (H := H6) V8)) ?_
 refine d_last ⟨L8 ++ [(14, vi r9)], [], H6⟩ (yc (some 14) true false (⟨L8, [], H6⟩ : St) (ok_emit_Code_now H6 c10)) ?_
 refine d_last ⟨L8 ++ [(14, vi r9), (15, vN)], [], H12⟩ (yc (some 15) false false (⟨L8 ++ [(14, vi r9)], [], H6⟩ : St) (ok_ranges_Builder_Mark H6 c11)) ?_
 exact yde
 obtain e0 := some1_inv hF
 subst e0
 exact yi (vN)
theorem ok_ref17_Number_2 (H : Heap) {p0 : T_ref17_Code} {p1 : Int} {p2 : Int} {ra : T_ref17_Code} (hF : ref17_Number p0 p1 p2 = some ra) : evS X 38 [.agg (m1_ref17_Code p0), .one .top (.int .i64 p1), .one .top (.int .i32 p2)] H = some (.agg (m1_ref17_Code ra), H) := by
 let E1 : EN := (2, .one .top (.int .i32 p2))
 let B2 : EB := (3, (m1_ref17_Code p0))
 let B3 : EB := (6, [((.own 1), .sl 5 (List.map e_ref02_Instr ([] : List T_ref02_Instr))), ((.own 1), .sl 1 (List.map (eI .i64) ([] : List Int))), ((.own 1), .sl 4 (List.map e_api_Fixup ([] : List T_api_Fixup))), ((.own 1), .sl 1 (List.map (eI .i64) ([] : List Int))), ((.own 1), .sl 1 (List.map (eI .i64) ([] : List Int))), (.top, .int .i64 0), (.top, .int .i64 0), (.top, .int .i64 0)])
 let E4 : EN := (6, vl 6 0)
 let L9 : List EN := [(1, vi p1), E1, (3, vl 3 0), E4]
 let L10 : List EN := [(1, vi p1), (3, vl 3 0), E4, (7, vi (IntKind.wrap .i64 (IntKind.wrap .u32 p2)))]
 let L11 : List EN := L9 ++ [(8, .one .top (.int .i32 p2))]
 let L12 : List EN := L9 ++ [(14, .agg (m1_ref17_Code p0)), (15, vi p1), (16, .one .top (.int .i32 p2)), (17, vi (IntKind.wrap .i64 p2)), (18, .agg [(.top, .int .i64 2), (.top, .int .i64 p1), (.top, .int .i64 0), (.top, .int .i64 0), (.top, .int .i64 (IntKind.wrap .i64 p2))])]
 let L13 : List EN := L10 ++ [(23, .agg (m1_ref17_Code p0)), (24, vi p1), (25, vi (IntKind.wrap .i64 (IntKind.wrap .u32 p2))), (26, vi (IntKind.wrap .i64 (Int.tdiv (IntKind.wrap .i64 (IntKind.wrap .u32 p2)) 65536))), (27, .agg [(.top, .int .i64 3), (.top, .int .i64 p1), (.top, .int .i64 0), (.top, .int .i64 0), (.top, .int .i64 (IntKind.wrap .i64 (Int.tdiv (IntKind.wrap .i64 (IntKind.wrap .u32 p2)) 65536)))])]
 refine yf Try.func38 true ⟨[(0, .agg (m1_ref17_Code p0)), (1, vi p1), E1], [], H⟩ ?_
 unfold ref17_Number at hF
 refine ysg ⟨L9, [B2, B3], H⟩ ?_
 refine w_seq ?_
 refine yso ⟨L9 ++ [(13, vb ((decide (p2 ≥ (-32768))) && (decide (p2 ≤ 32767))))], [B2, B3], H⟩ ?_ ?_
 refine yr 3 ⟨L11 ++ [(9, vb (decide (p2 ≥ (-32768)))), (10, vb (decide (p2 ≥ (-32768))))], [B2, B3], H⟩ ?_
 rcases bool_cases (decide (p2 ≥ (-32768))) with h1 | h1
 refine o_eq (congrArg (fun q => (⟨L11 ++ [(9, vb q), (10, vb q)], [B2, B3], H⟩ : St)) h1) ?_
 refine yr 3 ⟨L11 ++ [(9, vT), (10, vT), (11, .one .top (.int .i32 p2)), (12, vb (decide (p2 ≤ 32767))), (13, vb (decide (p2 ≤ 32767)))], [B2, B3], H⟩ ?_
 refine o_eq2 (congrArg (fun q0 => (⟨L9 ++ [(13, vb q0)], [B2, B3], H⟩ : St)) (show (decide (p2 ≤ 32767)) = ((decide (p2 ≥ (-32768))) && (decide (p2 ≤ 32767))) by simp [h1])) ?_
 exact ye
 refine o_eq (congrArg (fun q => (⟨L11 ++ [(9, vb q), (10, vb q)], [B2, B3], H⟩ : St)) h1) ?_
 refine yr 3 ⟨L11 ++ [(9, vF), (10, vF), (11, vN), (12, vN), (13, vF)], [B2, B3], H⟩ ?_
 refine o_eq2 (congrArg (fun q0 => (⟨L9 ++ [(13, vb q0)], [B2, B3], H⟩ : St)) (show false = ((decide (p2 ≥ (-32768))) && (decide (p2 ≤ 32767))) by simp [h1])) ?_
 exact ye
 rcases if_inv hF with ⟨h2, hF⟩ | ⟨h2, hF⟩
 refine yT h2 ⟨L9, [B2, B3], H⟩ ?_
 refine w_seq ?_
 obtain ⟨r3, c4, hF⟩ := bind1_inv hF
 let E5 : EN := (19, .agg (m1_ref17_Code r3))
 refine w_regO ⟨[E4], [(6, (m1_ref17_Code r3))], H⟩ ?_ ?_
 refine yr 5 ⟨L12, [B2, B3], H⟩ ?_
 refine o_one ⟨L12 ++ [E5], [B2, B3], H⟩ (yc (some 19) true false (⟨L12, [B2, B3], H⟩ : St) (ok_ref17_Put H c4)) ?_
 refine yr 1 ⟨L12 ++ [E5], [B2, (6, (m1_ref17_Code r3))], H⟩ ?_
 exact ye
 refine w_ret ?_
 obtain e0 := some1_inv hF
 subst e0
 exact yp (.agg (m1_ref17_Code r3))
 refine yF h2 ⟨L9, [B2, B3], H⟩ ?_
 refine w_skip ?_
 refine ysg ⟨L10, [B2, B3], H⟩ ?_
 refine w_seq ?_
 obtain ⟨r5, c6, hF⟩ := bind1_inv hF
 let B6 : EB := (3, (m1_ref17_Code r5))
 let E7 : EN := (28, .agg (m1_ref17_Code r5))
 let L14 : List EN := L10 ++ [(29, .agg (m1_ref17_Code r5)), (30, vi p1), (31, vi p1), (32, vi (IntKind.wrap .i64 (IntKind.wrap .u32 p2))), (33, vi (Int.tmod (IntKind.wrap .i64 (IntKind.wrap .u32 p2)) 65536)), (34, .agg [(.top, .int .i64 4), (.top, .int .i64 p1), (.top, .int .i64 p1), (.top, .int .i64 0), (.top, .int .i64 (Int.tmod (IntKind.wrap .i64 (IntKind.wrap .u32 p2)) 65536))])]
 refine w_regO ⟨L10, [B6, B3], H⟩ ?_ ?_
 refine yr 5 ⟨L13, [B2, B3], H⟩ ?_
 refine o_one ⟨L13 ++ [E7], [B2, B3], H⟩ (yc (some 28) true false (⟨L13, [B2, B3], H⟩ : St) (ok_ref17_Put H c6)) ?_
 refine yr 1 ⟨L13 ++ [E7], [B6, B3], H⟩ ?_
 exact ye
 refine w_seq ?_
 obtain ⟨r7, c8, hF⟩ := bind1_inv hF
 let E8 : EN := (35, .agg (m1_ref17_Code r7))
 refine w_regO ⟨[E4], [(6, (m1_ref17_Code r7))], H⟩ ?_ ?_
 refine yr 6 ⟨L14, [B6, B3], H⟩ ?_
 refine o_one ⟨L14 ++ [E8], [B6, B3], H⟩ (yc (some 35) true false (⟨L14, [B6, B3], H⟩ : St) (ok_ref17_Put H c8)) ?_
 refine yr 1 ⟨L14 ++ [E8], [B6, (6, (m1_ref17_Code r7))], H⟩ ?_
 exact ye
 refine w_ret ?_
 obtain e0 := some1_inv hF
 subst e0
 exact yp (.agg (m1_ref17_Code r7))
theorem ok_ref17_Fix_2 (H : Heap) {p0 : T_ref17_Code} {p1 : Int} {p2 : Int} {p3 : Int} {p4 : Int} {ra : T_ref17_Code} (hF : ref17_Fix p0 p1 p2 p3 p4 = some ra) : evS X 41 [.agg (m1_ref17_Code p0), .one .top (.int .i64 p1), .one .top (.int .i64 p2), .one .top (.int .i64 p3), .one .top (.int .i64 p4)] H = some (.agg (m1_ref17_Code ra), H) := by
 let E1 : EN := (16, .one (.own 0) (.sl 5 (List.map e_ref02_Instr p0.L_)))
 let E2 : EN := (12, vl 5 2)
 let E3 : EN := (13, .one (.own 0) (.sl 4 (List.map e_api_Fixup p0.Fixups_)))
 let E4 : EN := (11, .one (.own 1) (.sl 4 (List.map e_api_Fixup ([] : List T_api_Fixup))))
 let B5 : EB := (5, (m1_ref17_Code p0))
 let B6 : EB := (10, [((.own 1), .sl 5 (List.map e_ref02_Instr ([] : List T_ref02_Instr))), ((.own 1), .sl 1 (List.map (eI .i64) ([] : List Int))), ((.own 1), .sl 4 (List.map e_api_Fixup ([] : List T_api_Fixup))), ((.own 1), .sl 1 (List.map (eI .i64) ([] : List Int))), ((.own 1), .sl 1 (List.map (eI .i64) ([] : List Int))), (.top, .int .i64 0), (.top, .int .i64 0), (.top, .int .i64 0)])
 let E8 : EN := (15, vl 5 0)
 let E9 : EN := (18, vi p1)
 let E10 : EN := (19, vi p2)
 let E11 : EN := (10, vl 10 0)
 let B12 : EB := (5, [((.own 0), .sl 5 (List.map e_ref02_Instr p0.L_)), ((.own 0), .sl 1 (List.map (eI .i64) p0.G_)), (.top, .junk), ((.own 0), .sl 1 (List.map (eI .i64) p0.Pads_)), ((.own 0), .sl 1 (List.map (eI .i64) p0.Active_)), (.top, .int .i64 p0.Depth_), (.top, .int .i64 p0.Most_), (.top, .int .i64 p0.Err_)])
 let L18 : List EN := [(4, vi p4), (5, vl 5 0), E11]
 let L19 : List EN := [(1, vi p1), (2, vi p2), (3, vi p3)] ++ L18
 let L20 : List EN := [E8, E1, (17, vi (p0.L_.length : Int)), E9, E10, (20, vi p3)]
 let L21 : List EN := L20 ++ [(21, .agg [(.top, .int .i64 (p0.L_.length : Int)), (.top, .int .i64 p1), (.top, .int .i64 p2), (.top, .int .i64 p3)])]
 let L22 : List EN := L19 ++ [(11, .one .top .junk), E2, E3]
 let L23 : List EN := L22 ++ [(14, .one .top .junk)] ++ L21 ++ [(22, .one .top .junk)]
 let L24 : List EN := L21 ++ [(22, .one (.own 1) (.sl 4 (List.map e_api_Fixup ([(T_api_Fixup.mk (p0.L_.length : Int) p1 p2 p3)] : List T_api_Fixup))))]
 let L27 : List EN := L19 ++ [E4, E2, E3]
 let L28 : List EN := L23 ++ [(23, .one .top .junk), (24, vl 5 2)]
 let L31 : List EN := [E8, E1, E9, E10, (20, vi p3)]
 let L32 : List EN := L22 ++ L24
 let L33 : List EN := L27 ++ L24
 let L34 : List EN := L19 ++ [E2]
 let L35 : List EN := [E8, E9, E10, (20, vi p3)]
 let L36 : List EN := L19 ++ [E2, E3]
 let L37 : List EN := L19 ++ [E4, E2]
 refine yf Try.func41 true ⟨[(0, .agg (m1_ref17_Code p0)), (1, vi p1), (2, vi p2), (3, vi p3), (4, vi p4)], [], H⟩ ?_
 unfold ref17_Fix at hF
 refine ysg ⟨L19, [B5, B6], H⟩ ?_
 refine w_seq ?_
 obtain ⟨v1, h2, hF⟩ := bind1_inv hF
 let L26 : List EN := L22 ++ [(14, .one (.own 1) (.sl 4 (List.map e_api_Fixup v1)))]
 let L30 : List EN := L26 ++ L24
 obtain ⟨v3, h4, hF⟩ := bind1_inv hF
 let B7 : EB := (5, [((.own 0), .sl 5 (List.map e_ref02_Instr p0.L_)), ((.own 0), .sl 1 (List.map (eI .i64) p0.G_)), ((.own 1), .sl 4 (List.map e_api_Fixup v3)), ((.own 0), .sl 1 (List.map (eI .i64) p0.Pads_)), ((.own 0), .sl 1 (List.map (eI .i64) p0.Active_)), (.top, .int .i64 p0.Depth_), (.top, .int .i64 p0.Most_), (.top, .int .i64 p0.Err_)])
 let L25 : List EN := L23 ++ [(23, .one (.own 1) (.sl 4 (List.map e_api_Fixup v3)))]
 let L29 : List EN := L25 ++ [(24, vl 5 2)]
 let L38 : List EN := [(5, vl 5 0), E11, (27, .agg [((.own 0), .sl 5 (List.map e_ref02_Instr p0.L_)), ((.own 0), .sl 1 (List.map (eI .i64) p0.G_)), ((.own 0), .sl 4 (List.map e_api_Fixup v3)), ((.own 0), .sl 1 (List.map (eI .i64) p0.Pads_)), ((.own 0), .sl 1 (List.map (eI .i64) p0.Active_)), (.top, .int .i64 p0.Depth_), (.top, .int .i64 p0.Most_), (.top, .int .i64 p0.Err_)]), (28, .agg ([(.top, .int .i64 23)] ++ List.replicate 4 (.top, .int .i64 0)))]
 let L39 : List EN := L18 ++ [(30, .agg [((.own 0), .sl 5 (List.map e_ref02_Instr p0.L_)), ((.own 0), .sl 1 (List.map (eI .i64) p0.G_)), ((.own 0), .sl 4 (List.map e_api_Fixup v3)), ((.own 0), .sl 1 (List.map (eI .i64) p0.Pads_)), ((.own 0), .sl 1 (List.map (eI .i64) p0.Active_)), (.top, .int .i64 p0.Depth_), (.top, .int .i64 p0.Most_), (.top, .int .i64 p0.Err_)]), (31, vi p4), (32, .agg [(.top, .int .i64 3), (.top, .int .i64 p4), (.top, .int .i64 0), (.top, .int .i64 0), (.top, .int .i64 0)])]
 let K44 : Sch := .last 3 (.last 12 (.take 13 (.last 14 .done)))
 let K42 : Sch := .alt 2 (.alt 3 (.last 11 (.last 12 (.take 13 (.last 14 .done)))) (.last 11 K44)) (.last 11 (.last 2 K44))
 let K43 : Sch := .alt 0 (.alt 3 (.last 11 (.last 12 (.take 13 (.last 14 .done)))) (.last 11 K44)) (.last 11 (.last 0 K44))
 let K41 : Sch := .alt 3 (.last 5 (.take 6 (.take 10 (.last 11 (.last 12 (.take 13 (.last 14 .done))))))) (.last 5 (.take 6 (.take 10 (.alt 3 (.last 11 (.last 12 (.take 13 (.last 14 .done)))) (.last 11 K44)))))
 refine w_regD (.take 1 (.take 4 (.take 7 (.take 8 (.take 9 (.alt 0 (.alt 2 K41 (.last 5 (.take 6 (.take 10 K42)))) (.alt 2 (.alt 0 K41 (.last 5 (.take 6 (.take 10 K43)))) (.last 5 (.take 6 (.take 10 (.alt 0 K42 (.alt 2 K43 (.last 11 (.alt 0 (.last 2 K44) (.last 2 (.last 0 K44)))))))))))))))) (by kernel_rfl) (⟨[(1, vi p1)] ++ L18, [B7, B6], H⟩ : St) ?_ ?_
 refine ydk 5 ⟨L34 ++ L35, [B5, B6], H⟩ ?_
 refine q_in (⟨L28, [B7, B6], H⟩ : St) ?_ ?_
 refine q_alt ⟨L37 ++ L35, [B5, B6], H⟩ (by kernel_rfl) ?_ ?_
 refine q_alt ⟨L27 ++ L35, [B5, B6], H⟩ (by kernel_rfl) ?_ ?_
 refine q_alt ⟨L26 ++ L35, [B5, B6], H⟩ (st_app (X := X) (⟨L22 ++ L35, [B5, B6], H⟩ : St) 32 h2 27 27 43 4 0 (List.replicate 4 (.top, .int .i64 0)) (.own 0) e_api_Fixup 0 (some 14) (by kernel_rfl) (by kernel_rfl) (by kernel_rfl) (by kernel_rfl) (by kernel_rfl) (by kernel_rfl) (by kernel_rfl) (by kernel_rfl) (by kernel_rfl) (fun _ => rfl) (by kernel_rfl)) ?_ ?_
 refine yql ⟨L26 ++ L31, [B5, B6], H⟩ ?_
 refine q_take ⟨L26 ++ L20, [B5, B6], H⟩ (yl (⟨L26 ++ L31, [B5, B6], H⟩ : St) p0.L_ e_ref02_Instr (some 17)) ?_
 refine yqt ⟨L26 ++ L21, [B5, B6], H⟩ ?_
 refine yql ⟨L30, [B5, B6], H⟩ ?_
 refine q_last ⟨L25, [B5, B6], H⟩ (st_app (X := X) (⟨L23, [B5, B6], H⟩ : St) 32 h4 27 27 43 4 0 (List.replicate 4 (.top, .int .i64 0)) (.own 1) e_api_Fixup 0 (some 23) (by kernel_rfl) (by kernel_rfl) (by kernel_rfl) (by kernel_rfl) (by kernel_rfl) (by kernel_rfl) (by kernel_rfl) (by kernel_rfl) (by kernel_rfl) (fun _ => rfl) (by kernel_rfl)) ?_
 refine yqt ⟨L29, [B5, B6], H⟩ ?_
 refine yql ⟨L28, [B7, B6], H⟩ ?_
 exact yqe
 refine yql ⟨L27 ++ L31, [B5, B6], H⟩ ?_
 refine q_take ⟨L27 ++ L20, [B5, B6], H⟩ (yl (⟨L27 ++ L31, [B5, B6], H⟩ : St) p0.L_ e_ref02_Instr (some 17)) ?_
 refine yqt ⟨L27 ++ L21, [B5, B6], H⟩ ?_
 refine q_alt ⟨L26 ++ L21, [B5, B6], H⟩ (st_app (X := X) (⟨L22 ++ L21, [B5, B6], H⟩ : St) 32 h2 27 27 43 4 0 (List.replicate 4 (.top, .int .i64 0)) (.own 0) e_api_Fixup 0 (some 14) (by kernel_rfl) (by kernel_rfl) (by kernel_rfl) (by kernel_rfl) (by kernel_rfl) (by kernel_rfl) (by kernel_rfl) (by kernel_rfl) (by kernel_rfl) (fun _ => rfl) (by kernel_rfl)) ?_ ?_
 refine yql ⟨L30, [B5, B6], H⟩ ?_
 refine q_last ⟨L25, [B5, B6], H⟩ (st_app (X := X) (⟨L23, [B5, B6], H⟩ : St) 32 h4 27 27 43 4 0 (List.replicate 4 (.top, .int .i64 0)) (.own 1) e_api_Fixup 0 (some 23) (by kernel_rfl) (by kernel_rfl) (by kernel_rfl) (by kernel_rfl) (by kernel_rfl) (by kernel_rfl) (by kernel_rfl) (by kernel_rfl) (by kernel_rfl) (fun _ => rfl) (by kernel_rfl)) ?_
 refine yqt ⟨L29, [B5, B6], H⟩ ?_
 refine yql ⟨L28, [B7, B6], H⟩ ?_
 exact yqe
 refine yql ⟨L33, [B5, B6], H⟩ ?_
 refine q_last ⟨L30, [B5, B6], H⟩ (st_app (X := X) (⟨L32, [B5, B6], H⟩ : St) 32 h2 27 27 43 4 0 (List.replicate 4 (.top, .int .i64 0)) (.own 0) e_api_Fixup 0 (some 14) (by kernel_rfl) (by kernel_rfl) (by kernel_rfl) (by kernel_rfl) (by kernel_rfl) (by kernel_rfl) (by kernel_rfl) (by kernel_rfl) (by kernel_rfl) (fun _ => rfl) (by kernel_rfl)) ?_
 refine q_last ⟨L25, [B5, B6], H⟩ (st_app (X := X) (⟨L23, [B5, B6], H⟩ : St) 32 h4 27 27 43 4 0 (List.replicate 4 (.top, .int .i64 0)) (.own 1) e_api_Fixup 0 (some 23) (by kernel_rfl) (by kernel_rfl) (by kernel_rfl) (by kernel_rfl) (by kernel_rfl) (by kernel_rfl) (by kernel_rfl) (by kernel_rfl) (by kernel_rfl) (fun _ => rfl) (by kernel_rfl)) ?_
 refine yqt ⟨L29, [B5, B6], H⟩ ?_
 refine yql ⟨L28, [B7, B6], H⟩ ?_
 exact yqe
 refine yql ⟨L37 ++ L31, [B5, B6], H⟩ ?_
 refine q_take ⟨L37 ++ L20, [B5, B6], H⟩ (yl (⟨L37 ++ L31, [B5, B6], H⟩ : St) p0.L_ e_ref02_Instr (some 17)) ?_
 refine yqt ⟨L37 ++ L21, [B5, B6], H⟩ ?_
 refine q_alt ⟨L27 ++ L21, [B5, B6], H⟩ (by kernel_rfl) ?_ ?_
 refine q_alt ⟨L26 ++ L21, [B5, B6], H⟩ (st_app (X := X) (⟨L22 ++ L21, [B5, B6], H⟩ : St) 32 h2 27 27 43 4 0 (List.replicate 4 (.top, .int .i64 0)) (.own 0) e_api_Fixup 0 (some 14) (by kernel_rfl) (by kernel_rfl) (by kernel_rfl) (by kernel_rfl) (by kernel_rfl) (by kernel_rfl) (by kernel_rfl) (by kernel_rfl) (by kernel_rfl) (fun _ => rfl) (by kernel_rfl)) ?_ ?_
 refine yql ⟨L30, [B5, B6], H⟩ ?_
 refine q_last ⟨L25, [B5, B6], H⟩ (st_app (X := X) (⟨L23, [B5, B6], H⟩ : St) 32 h4 27 27 43 4 0 (List.replicate 4 (.top, .int .i64 0)) (.own 1) e_api_Fixup 0 (some 23) (by kernel_rfl) (by kernel_rfl) (by kernel_rfl) (by kernel_rfl) (by kernel_rfl) (by kernel_rfl) (by kernel_rfl) (by kernel_rfl) (by kernel_rfl) (fun _ => rfl) (by kernel_rfl)) ?_
 refine yqt ⟨L29, [B5, B6], H⟩ ?_
 refine yql ⟨L28, [B7, B6], H⟩ ?_
 exact yqe
 refine yql ⟨L33, [B5, B6], H⟩ ?_
 refine q_last ⟨L30, [B5, B6], H⟩ (st_app (X := X) (⟨L32, [B5, B6], H⟩ : St) 32 h2 27 27 43 4 0 (List.replicate 4 (.top, .int .i64 0)) (.own 0) e_api_Fixup 0 (some 14) (by kernel_rfl) (by kernel_rfl) (by kernel_rfl) (by kernel_rfl) (by kernel_rfl) (by kernel_rfl) (by kernel_rfl) (by kernel_rfl) (by kernel_rfl) (fun _ => rfl) (by kernel_rfl)) ?_
 refine q_last ⟨L25, [B5, B6], H⟩ (st_app (X := X) (⟨L23, [B5, B6], H⟩ : St) 32 h4 27 27 43 4 0 (List.replicate 4 (.top, .int .i64 0)) (.own 1) e_api_Fixup 0 (some 23) (by kernel_rfl) (by kernel_rfl) (by kernel_rfl) (by kernel_rfl) (by kernel_rfl) (by kernel_rfl) (by kernel_rfl) (by kernel_rfl) (by kernel_rfl) (fun _ => rfl) (by kernel_rfl)) ?_
 refine yqt ⟨L29, [B5, B6], H⟩ ?_
 refine yql ⟨L28, [B7, B6], H⟩ ?_
 exact yqe
 refine yql ⟨L37 ++ L24, [B5, B6], H⟩ ?_
 refine yql ⟨L33, [B5, B6], H⟩ ?_
 refine q_last ⟨L30, [B5, B6], H⟩ (st_app (X := X) (⟨L32, [B5, B6], H⟩ : St) 32 h2 27 27 43 4 0 (List.replicate 4 (.top, .int .i64 0)) (.own 0) e_api_Fixup 0 (some 14) (by kernel_rfl) (by kernel_rfl) (by kernel_rfl) (by kernel_rfl) (by kernel_rfl) (by kernel_rfl) (by kernel_rfl) (by kernel_rfl) (by kernel_rfl) (fun _ => rfl) (by kernel_rfl)) ?_
 refine q_last ⟨L25, [B5, B6], H⟩ (st_app (X := X) (⟨L23, [B5, B6], H⟩ : St) 32 h4 27 27 43 4 0 (List.replicate 4 (.top, .int .i64 0)) (.own 1) e_api_Fixup 0 (some 23) (by kernel_rfl) (by kernel_rfl) (by kernel_rfl) (by kernel_rfl) (by kernel_rfl) (by kernel_rfl) (by kernel_rfl) (by kernel_rfl) (by kernel_rfl) (fun _ => rfl) (by kernel_rfl)) ?_
 refine yqt ⟨L29, [B5, B6], H⟩ ?_
 refine yql ⟨L28, [B7, B6], H⟩ ?_
 exact yqe
 refine q_alt ⟨L36 ++ L35, [B5, B6], H⟩ (by kernel_rfl) ?_ ?_
 refine q_alt ⟨L27 ++ L35, [B5, B6], H⟩ (by kernel_rfl) ?_ ?_
 refine q_alt ⟨L26 ++ L35, [B5, B6], H⟩ (st_app (X := X) (⟨L22 ++ L35, [B5, B6], H⟩ : St) 32 h2 27 27 43 4 0 (List.replicate 4 (.top, .int .i64 0)) (.own 0) e_api_Fixup 0 (some 14) (by kernel_rfl) (by kernel_rfl) (by kernel_rfl) (by kernel_rfl) (by kernel_rfl) (by kernel_rfl) (by kernel_rfl) (by kernel_rfl) (by kernel_rfl) (fun _ => rfl) (by kernel_rfl)) ?_ ?_
 refine yql ⟨L26 ++ L31, [B5, B6], H⟩ ?_
 refine q_take ⟨L26 ++ L20, [B5, B6], H⟩ (yl (⟨L26 ++ L31, [B5, B6], H⟩ : St) p0.L_ e_ref02_Instr (some 17)) ?_
 refine yqt ⟨L26 ++ L21, [B5, B6], H⟩ ?_
 refine yql ⟨L30, [B5, B6], H⟩ ?_
 refine q_last ⟨L25, [B5, B6], H⟩ (st_app (X := X) (⟨L23, [B5, B6], H⟩ : St) 32 h4 27 27 43 4 0 (List.replicate 4 (.top, .int .i64 0)) (.own 1) e_api_Fixup 0 (some 23) (by kernel_rfl) (by kernel_rfl) (by kernel_rfl) (by kernel_rfl) (by kernel_rfl) (by kernel_rfl) (by kernel_rfl) (by kernel_rfl) (by kernel_rfl) (fun _ => rfl) (by kernel_rfl)) ?_
 refine yqt ⟨L29, [B5, B6], H⟩ ?_
 refine yql ⟨L28, [B7, B6], H⟩ ?_
 exact yqe
 refine yql ⟨L27 ++ L31, [B5, B6], H⟩ ?_
 refine q_take ⟨L27 ++ L20, [B5, B6], H⟩ (yl (⟨L27 ++ L31, [B5, B6], H⟩ : St) p0.L_ e_ref02_Instr (some 17)) ?_
 refine yqt ⟨L27 ++ L21, [B5, B6], H⟩ ?_
 refine q_alt ⟨L26 ++ L21, [B5, B6], H⟩ (st_app (X := X) (⟨L22 ++ L21, [B5, B6], H⟩ : St) 32 h2 27 27 43 4 0 (List.replicate 4 (.top, .int .i64 0)) (.own 0) e_api_Fixup 0 (some 14) (by kernel_rfl) (by kernel_rfl) (by kernel_rfl) (by kernel_rfl) (by kernel_rfl) (by kernel_rfl) (by kernel_rfl) (by kernel_rfl) (by kernel_rfl) (fun _ => rfl) (by kernel_rfl)) ?_ ?_
 refine yql ⟨L30, [B5, B6], H⟩ ?_
 refine q_last ⟨L25, [B5, B6], H⟩ (st_app (X := X) (⟨L23, [B5, B6], H⟩ : St) 32 h4 27 27 43 4 0 (List.replicate 4 (.top, .int .i64 0)) (.own 1) e_api_Fixup 0 (some 23) (by kernel_rfl) (by kernel_rfl) (by kernel_rfl) (by kernel_rfl) (by kernel_rfl) (by kernel_rfl) (by kernel_rfl) (by kernel_rfl) (by kernel_rfl) (fun _ => rfl) (by kernel_rfl)) ?_
 refine yqt ⟨L29, [B5, B6], H⟩ ?_
 refine yql ⟨L28, [B7, B6], H⟩ ?_
 exact yqe
 refine yql ⟨L33, [B5, B6], H⟩ ?_
 refine q_last ⟨L30, [B5, B6], H⟩ (st_app (X := X) (⟨L32, [B5, B6], H⟩ : St) 32 h2 27 27 43 4 0 (List.replicate 4 (.top, .int .i64 0)) (.own 0) e_api_Fixup 0 (some 14) (by kernel_rfl) (by kernel_rfl) (by kernel_rfl) (by kernel_rfl) (by kernel_rfl) (by kernel_rfl) (by kernel_rfl) (by kernel_rfl) (by kernel_rfl) (fun _ => rfl) (by kernel_rfl)) ?_
 refine q_last ⟨L25, [B5, B6], H⟩ (st_app (X := X) (⟨L23, [B5, B6], H⟩ : St) 32 h4 27 27 43 4 0 (List.replicate 4 (.top, .int .i64 0)) (.own 1) e_api_Fixup 0 (some 23) (by kernel_rfl) (by kernel_rfl) (by kernel_rfl) (by kernel_rfl) (by kernel_rfl) (by kernel_rfl) (by kernel_rfl) (by kernel_rfl) (by kernel_rfl) (fun _ => rfl) (by kernel_rfl)) ?_
 refine yqt ⟨L29, [B5, B6], H⟩ ?_
 refine yql ⟨L28, [B7, B6], H⟩ ?_
 exact yqe
 refine yql ⟨L36 ++ L31, [B5, B6], H⟩ ?_
 refine q_take ⟨L36 ++ L20, [B5, B6], H⟩ (yl (⟨L36 ++ L31, [B5, B6], H⟩ : St) p0.L_ e_ref02_Instr (some 17)) ?_
 refine yqt ⟨L36 ++ L21, [B5, B6], H⟩ ?_
 refine q_alt ⟨L27 ++ L21, [B5, B6], H⟩ (by kernel_rfl) ?_ ?_
 refine q_alt ⟨L26 ++ L21, [B5, B6], H⟩ (st_app (X := X) (⟨L22 ++ L21, [B5, B6], H⟩ : St) 32 h2 27 27 43 4 0 (List.replicate 4 (.top, .int .i64 0)) (.own 0) e_api_Fixup 0 (some 14) (by kernel_rfl) (by kernel_rfl) (by kernel_rfl) (by kernel_rfl) (by kernel_rfl) (by kernel_rfl) (by kernel_rfl) (by kernel_rfl) (by kernel_rfl) (fun _ => rfl) (by kernel_rfl)) ?_ ?_
 refine yql ⟨L30, [B5, B6], H⟩ ?_
 refine q_last ⟨L25, [B5, B6], H⟩ (st_app (X := X) (⟨L23, [B5, B6], H⟩ : St) 32 h4 27 27 43 4 0 (List.replicate 4 (.top, .int .i64 0)) (.own 1) e_api_Fixup 0 (some 23) (by kernel_rfl) (by kernel_rfl) (by kernel_rfl) (by kernel_rfl) (by kernel_rfl) (by kernel_rfl) (by kernel_rfl) (by kernel_rfl) (by kernel_rfl) (fun _ => rfl) (by kernel_rfl)) ?_
 refine yqt ⟨L29, [B5, B6], H⟩ ?_
 refine yql ⟨L28, [B7, B6], H⟩ ?_
 exact yqe
 refine yql ⟨L33, [B5, B6], H⟩ ?_
 refine q_last ⟨L30, [B5, B6], H⟩ (st_app (X := X) (⟨L32, [B5, B6], H⟩ : St) 32 h2 27 27 43 4 0 (List.replicate 4 (.top, .int .i64 0)) (.own 0) e_api_Fixup 0 (some 14) (by kernel_rfl) (by kernel_rfl) (by kernel_rfl) (by kernel_rfl) (by kernel_rfl) (by kernel_rfl) (by kernel_rfl) (by kernel_rfl) (by kernel_rfl) (fun _ => rfl) (by kernel_rfl)) ?_
 refine q_last ⟨L25, [B5, B6], H⟩ (st_app (X := X) (⟨L23, [B5, B6], H⟩ : St) 32 h4 27 27 43 4 0 (List.replicate 4 (.top, .int .i64 0)) (.own 1) e_api_Fixup 0 (some 23) (by kernel_rfl) (by kernel_rfl) (by kernel_rfl) (by kernel_rfl) (by kernel_rfl) (by kernel_rfl) (by kernel_rfl) (by kernel_rfl) (by kernel_rfl) (fun _ => rfl) (by kernel_rfl)) ?_
 refine yqt ⟨L29, [B5, B6], H⟩ ?_
 refine yql ⟨L28, [B7, B6], H⟩ ?_
 exact yqe
 refine yql ⟨L36 ++ L24, [B5, B6], H⟩ ?_
 refine yql ⟨L33, [B5, B6], H⟩ ?_
 refine q_last ⟨L30, [B5, B6], H⟩ (st_app (X := X) (⟨L32, [B5, B6], H⟩ : St) 32 h2 27 27 43 4 0 (List.replicate 4 (.top, .int .i64 0)) (.own 0) e_api_Fixup 0 (some 14) (by kernel_rfl) (by kernel_rfl) (by kernel_rfl) (by kernel_rfl) (by kernel_rfl) (by kernel_rfl) (by kernel_rfl) (by kernel_rfl) (by kernel_rfl) (fun _ => rfl) (by kernel_rfl)) ?_
 refine q_last ⟨L25, [B5, B6], H⟩ (st_app (X := X) (⟨L23, [B5, B6], H⟩ : St) 32 h4 27 27 43 4 0 (List.replicate 4 (.top, .int .i64 0)) (.own 1) e_api_Fixup 0 (some 23) (by kernel_rfl) (by kernel_rfl) (by kernel_rfl) (by kernel_rfl) (by kernel_rfl) (by kernel_rfl) (by kernel_rfl) (by kernel_rfl) (by kernel_rfl) (fun _ => rfl) (by kernel_rfl)) ?_
 refine yqt ⟨L29, [B5, B6], H⟩ ?_
 refine yql ⟨L28, [B7, B6], H⟩ ?_
 exact yqe
 refine yql ⟨L34 ++ L31, [B5, B6], H⟩ ?_
 refine q_take ⟨L34 ++ L20, [B5, B6], H⟩ (yl (⟨L34 ++ L31, [B5, B6], H⟩ : St) p0.L_ e_ref02_Instr (some 17)) ?_
 refine yqt ⟨L34 ++ L21, [B5, B6], H⟩ ?_
 refine q_alt ⟨L37 ++ L21, [B5, B6], H⟩ (by kernel_rfl) ?_ ?_
 refine q_alt ⟨L27 ++ L21, [B5, B6], H⟩ (by kernel_rfl) ?_ ?_
 refine q_alt ⟨L26 ++ L21, [B5, B6], H⟩ (st_app (X := X) (⟨L22 ++ L21, [B5, B6], H⟩ : St) 32 h2 27 27 43 4 0 (List.replicate 4 (.top, .int .i64 0)) (.own 0) e_api_Fixup 0 (some 14) (by kernel_rfl) (by kernel_rfl) (by kernel_rfl) (by kernel_rfl) (by kernel_rfl) (by kernel_rfl) (by kernel_rfl) (by kernel_rfl) (by kernel_rfl) (fun _ => rfl) (by kernel_rfl)) ?_ ?_
 refine yql ⟨L30, [B5, B6], H⟩ ?_
 refine q_last ⟨L25, [B5, B6], H⟩ (st_app (X := X) (⟨L23, [B5, B6], H⟩ : St) 32 h4 27 27 43 4 0 (List.replicate 4 (.top, .int .i64 0)) (.own 1) e_api_Fixup 0 (some 23) (by kernel_rfl) (by kernel_rfl) (by kernel_rfl) (by kernel_rfl) (by kernel_rfl) (by kernel_rfl) (by kernel_rfl) (by kernel_rfl) (by kernel_rfl) (fun _ => rfl) (by kernel_rfl)) ?_
 refine yqt ⟨L29, [B5, B6], H⟩ ?_
 refine yql ⟨L28, [B7, B6], H⟩ ?_
 exact yqe
 refine yql ⟨L33, [B5, B6], H⟩ ?_
 refine q_last ⟨L30, [B5, B6], H⟩ (st_app (X := X) (⟨L32, [B5, B6], H⟩ : St) 32 h2 27 27 43 4 0 (List.replicate 4 (.top, .int .i64 0)) (.own 0) e_api_Fixup 0 (some 14) (by kernel_rfl) (by kernel_rfl) (by kernel_rfl) (by kernel_rfl) (by kernel_rfl) (by kernel_rfl) (by kernel_rfl) (by kernel_rfl) (by kernel_rfl) (fun _ => rfl) (by kernel_rfl)) ?_
 refine q_last ⟨L25, [B5, B6], H⟩ (st_app (X := X) (⟨L23, [B5, B6], H⟩ : St) 32 h4 27 27 43 4 0 (List.replicate 4 (.top, .int .i64 0)) (.own 1) e_api_Fixup 0 (some 23) (by kernel_rfl) (by kernel_rfl) (by kernel_rfl) (by kernel_rfl) (by kernel_rfl) (by kernel_rfl) (by kernel_rfl) (by kernel_rfl) (by kernel_rfl) (fun _ => rfl) (by kernel_rfl)) ?_
 refine yqt ⟨L29, [B5, B6], H⟩ ?_
 refine yql ⟨L28, [B7, B6], H⟩ ?_
 exact yqe
 refine yql ⟨L37 ++ L24, [B5, B6], H⟩ ?_
 refine yql ⟨L33, [B5, B6], H⟩ ?_
 refine q_last ⟨L30, [B5, B6], H⟩ (st_app (X := X) (⟨L32, [B5, B6], H⟩ : St) 32 h2 27 27 43 4 0 (List.replicate 4 (.top, .int .i64 0)) (.own 0) e_api_Fixup 0 (some 14) (by kernel_rfl) (by kernel_rfl) (by kernel_rfl) (by kernel_rfl) (by kernel_rfl) (by kernel_rfl) (by kernel_rfl) (by kernel_rfl) (by kernel_rfl) (fun _ => rfl) (by kernel_rfl)) ?_
 refine q_last ⟨L25, [B5, B6], H⟩ (st_app (X := X) (⟨L23, [B5, B6], H⟩ : St) 32 h4 27 27 43 4 0 (List.replicate 4 (.top, .int .i64 0)) (.own 1) e_api_Fixup 0 (some 23) (by kernel_rfl) (by kernel_rfl) (by kernel_rfl) (by kernel_rfl) (by kernel_rfl) (by kernel_rfl) (by kernel_rfl) (by kernel_rfl) (by kernel_rfl) (fun _ => rfl) (by kernel_rfl)) ?_
 refine yqt ⟨L29, [B5, B6], H⟩ ?_
 refine yql ⟨L28, [B7, B6], H⟩ ?_
 exact yqe
 refine q_alt ⟨L36 ++ L21, [B5, B6], H⟩ (by kernel_rfl) ?_ ?_
 refine q_alt ⟨L27 ++ L21, [B5, B6], H⟩ (by kernel_rfl) ?_ ?_
 refine q_alt ⟨L26 ++ L21, [B5, B6], H⟩ (st_app (X := X) (⟨L22 ++ L21, [B5, B6], H⟩ : St) 32 h2 27 27 43 4 0 (List.replicate 4 (.top, .int .i64 0)) (.own 0) e_api_Fixup 0 (some 14) (by kernel_rfl) (by kernel_rfl) (by kernel_rfl) (by kernel_rfl) (by kernel_rfl) (by kernel_rfl) (by kernel_rfl) (by kernel_rfl) (by kernel_rfl) (fun _ => rfl) (by kernel_rfl)) ?_ ?_
 refine yql ⟨L30, [B5, B6], H⟩ ?_
 refine q_last ⟨L25, [B5, B6], H⟩ (st_app (X := X) (⟨L23, [B5, B6], H⟩ : St) 32 h4 27 27 43 4 0 (List.replicate 4 (.top, .int .i64 0)) (.own 1) e_api_Fixup 0 (some 23) (by kernel_rfl) (by kernel_rfl) (by kernel_rfl) (by kernel_rfl) (by kernel_rfl) (by kernel_rfl) (by kernel_rfl) (by kernel_rfl) (by kernel_rfl) (fun _ => rfl) (by kernel_rfl)) ?_
 refine yqt ⟨L29, [B5, B6], H⟩ ?_
 refine yql ⟨L28, [B7, B6], H⟩ ?_
 exact yqe
 refine yql ⟨L33, [B5, B6], H⟩ ?_
 refine q_last ⟨L30, [B5, B6], H⟩ (st_app (X := X) (⟨L32, [B5, B6], H⟩ : St) 32 h2 27 27 43 4 0 (List.replicate 4 (.top, .int .i64 0)) (.own 0) e_api_Fixup 0 (some 14) (by kernel_rfl) (by kernel_rfl) (by kernel_rfl) (by kernel_rfl) (by kernel_rfl) (by kernel_rfl) (by kernel_rfl) (by kernel_rfl) (by kernel_rfl) (fun _ => rfl) (by kernel_rfl)) ?_
 refine q_last ⟨L25, [B5, B6], H⟩ (st_app (X := X) (⟨L23, [B5, B6], H⟩ : St) 32 h4 27 27 43 4 0 (List.replicate 4 (.top, .int .i64 0)) (.own 1) e_api_Fixup 0 (some 23) (by kernel_rfl) (by kernel_rfl) (by kernel_rfl) (by kernel_rfl) (by kernel_rfl) (by kernel_rfl) (by kernel_rfl) (by kernel_rfl) (by kernel_rfl) (fun _ => rfl) (by kernel_rfl)) ?_
 refine yqt ⟨L29, [B5, B6], H⟩ ?_
 refine yql ⟨L28, [B7, B6], H⟩ ?_
 exact yqe
 refine yql ⟨L36 ++ L24, [B5, B6], H⟩ ?_
 refine yql ⟨L33, [B5, B6], H⟩ ?_
 refine q_last ⟨L30, [B5, B6], H⟩ (st_app (X := X) (⟨L32, [B5, B6], H⟩ : St) 32 h2 27 27 43 4 0 (List.replicate 4 (.top, .int .i64 0)) (.own 0) e_api_Fixup 0 (some 14) (by kernel_rfl) (by kernel_rfl) (by kernel_rfl) (by kernel_rfl) (by kernel_rfl) (by kernel_rfl) (by kernel_rfl) (by kernel_rfl) (by kernel_rfl) (fun _ => rfl) (by kernel_rfl)) ?_
 refine q_last ⟨L25, [B5, B6], H⟩ (st_app (X := X) (⟨L23, [B5, B6], H⟩ : St) 32 h4 27 27 43 4 0 (List.replicate 4 (.top, .int .i64 0)) (.own 1) e_api_Fixup 0 (some 23) (by kernel_rfl) (by kernel_rfl) (by kernel_rfl) (by kernel_rfl) (by kernel_rfl) (by kernel_rfl) (by kernel_rfl) (by kernel_rfl) (by kernel_rfl) (fun _ => rfl) (by kernel_rfl)) ?_
 refine yqt ⟨L29, [B5, B6], H⟩ ?_
 refine yql ⟨L28, [B7, B6], H⟩ ?_
 exact yqe
 refine yql ⟨L34 ++ L24, [B5, B6], H⟩ ?_
 refine q_alt ⟨L37 ++ L24, [B5, B6], H⟩ (by kernel_rfl) ?_ ?_
 refine yql ⟨L33, [B5, B6], H⟩ ?_
 refine q_last ⟨L30, [B5, B6], H⟩ (st_app (X := X) (⟨L32, [B5, B6], H⟩ : St) 32 h2 27 27 43 4 0 (List.replicate 4 (.top, .int .i64 0)) (.own 0) e_api_Fixup 0 (some 14) (by kernel_rfl) (by kernel_rfl) (by kernel_rfl) (by kernel_rfl) (by kernel_rfl) (by kernel_rfl) (by kernel_rfl) (by kernel_rfl) (by kernel_rfl) (fun _ => rfl) (by kernel_rfl)) ?_
 refine q_last ⟨L25, [B5, B6], H⟩ (st_app (X := X) (⟨L23, [B5, B6], H⟩ : St) 32 h4 27 27 43 4 0 (List.replicate 4 (.top, .int .i64 0)) (.own 1) e_api_Fixup 0 (some 23) (by kernel_rfl) (by kernel_rfl) (by kernel_rfl) (by kernel_rfl) (by kernel_rfl) (by kernel_rfl) (by kernel_rfl) (by kernel_rfl) (by kernel_rfl) (fun _ => rfl) (by kernel_rfl)) ?_
 refine yqt ⟨L29, [B5, B6], H⟩ ?_
 refine yql ⟨L28, [B7, B6], H⟩ ?_
 exact yqe
 refine yql ⟨L36 ++ L24, [B5, B6], H⟩ ?_
 refine yql ⟨L33, [B5, B6], H⟩ ?_
 refine q_last ⟨L30, [B5, B6], H⟩ (st_app (X := X) (⟨L32, [B5, B6], H⟩ : St) 32 h2 27 27 43 4 0 (List.replicate 4 (.top, .int .i64 0)) (.own 0) e_api_Fixup 0 (some 14) (by kernel_rfl) (by kernel_rfl) (by kernel_rfl) (by kernel_rfl) (by kernel_rfl) (by kernel_rfl) (by kernel_rfl) (by kernel_rfl) (by kernel_rfl) (fun _ => rfl) (by kernel_rfl)) ?_
 refine q_last ⟨L25, [B5, B6], H⟩ (st_app (X := X) (⟨L23, [B5, B6], H⟩ : St) 32 h4 27 27 43 4 0 (List.replicate 4 (.top, .int .i64 0)) (.own 1) e_api_Fixup 0 (some 23) (by kernel_rfl) (by kernel_rfl) (by kernel_rfl) (by kernel_rfl) (by kernel_rfl) (by kernel_rfl) (by kernel_rfl) (by kernel_rfl) (by kernel_rfl) (fun _ => rfl) (by kernel_rfl)) ?_
 refine yqt ⟨L29, [B5, B6], H⟩ ?_
 refine yql ⟨L28, [B7, B6], H⟩ ?_
 exact yqe
 kernel_rfl
 refine w_seq ?_
 refine ysg ⟨L18 ++ [(26, vb (p1 == 3))], [B7, B6], H⟩ ?_
 rcases if_inv hF with ⟨h5, hF⟩ | ⟨h5, hF⟩
 refine yT h5 ⟨[(5, vl 5 0), E11], [B7, B6], H⟩ ?_
 refine w_seq ?_
 obtain ⟨r6, c7, hF⟩ := bind1_inv hF
 let E13 : EN := (29, .agg (m1_ref17_Code r6))
 refine w_regO ⟨[E11], [(10, (m1_ref17_Code r6))], H⟩ ?_ ?_
 refine yr 2 ⟨L38, [B12, B6], H⟩ ?_
 refine o_one ⟨L38 ++ [E13], [B12, B6], H⟩ (yc (some 29) true false (⟨L38, [B12, B6], H⟩ : St) (ok_ref17_Put H c7)) ?_
 refine yr 1 ⟨L38 ++ [E13], [B12, (10, (m1_ref17_Code r6))], H⟩ ?_
 exact ye
 refine w_ret ?_
 obtain e0 := some1_inv hF
 subst e0
 exact yp (.agg (m1_ref17_Code r6))
 refine yF h5 ⟨L18, [B7, B6], H⟩ ?_
 refine w_skip ?_
 refine w_seq ?_
 obtain ⟨r8, c9, hF⟩ := bind1_inv hF
 let B14 : EB := (5, (m1_ref17_Code r8))
 let E15 : EN := (33, .agg (m1_ref17_Code r8))
 let L40 : List EN := L18 ++ [(34, .agg (m1_ref17_Code r8)), (35, vi p4), (36, vi p4), (37, .agg [(.top, .int .i64 4), (.top, .int .i64 p4), (.top, .int .i64 p4), (.top, .int .i64 0), (.top, .int .i64 0)])]
 refine w_regO ⟨L18, [B14, B6], H⟩ ?_ ?_
 refine yr 3 ⟨L39, [B12, B6], H⟩ ?_
 refine o_one ⟨L39 ++ [E15], [B12, B6], H⟩ (yc (some 33) true false (⟨L39, [B12, B6], H⟩ : St) (ok_ref17_Put H c9)) ?_
 refine yr 1 ⟨L39 ++ [E15], [B14, B6], H⟩ ?_
 exact ye
 refine w_seq ?_
 obtain ⟨r10, c11, hF⟩ := bind1_inv hF
 let B16 : EB := (10, (m1_ref17_Code r10))
 let E17 : EN := (38, .agg (m1_ref17_Code r10))
 refine w_regO ⟨[E11], [B16], H⟩ ?_ ?_
 refine yr 4 ⟨L40, [B14, B6], H⟩ ?_
 refine o_one ⟨L40 ++ [E17], [B14, B6], H⟩ (yc (some 38) true false (⟨L40, [B14, B6], H⟩ : St) (ok_ref17_Put H c11)) ?_
 refine yr 1 ⟨L40 ++ [E17], [B14, B16], H⟩ ?_
 exact ye
 refine w_ret ?_
 obtain e0 := some1_inv hF
 subst e0
 exact yp (.agg (m1_ref17_Code r10))
theorem ok_ref17_Push_2 (H : Heap) {p0 : T_ref17_Code} {p1 : Int} {ra : T_ref17_Code} (hF : ref17_Push p0 p1 = some ra) : evS X 43 [.agg (m1_ref17_Code p0), .one .top (.int .i64 p1)] H = some (.agg (m1_ref17_Code ra), H) := by
 let B1 : EB := (2, (m1_ref17_Code p0))
 let B2 : EB := (4, [((.own 1), .sl 5 (List.map e_ref02_Instr ([] : List T_ref02_Instr))), ((.own 1), .sl 1 (List.map (eI .i64) ([] : List Int))), ((.own 1), .sl 4 (List.map e_api_Fixup ([] : List T_api_Fixup))), ((.own 1), .sl 1 (List.map (eI .i64) ([] : List Int))), ((.own 1), .sl 1 (List.map (eI .i64) ([] : List Int))), (.top, .int .i64 0), (.top, .int .i64 0), (.top, .int .i64 0)])
 let E5 : EN := (2, vl 2 0)
 let E6 : EN := (4, vl 4 0)
 let L8 : List EN := [(1, vi p1), E5, E6]
 let L9 : List EN := L8 ++ [(5, .agg (m1_ref17_Code p0)), (6, .agg [(.top, .int .i64 5), (.top, .int .i64 15), (.top, .int .i64 15), (.top, .int .i64 0), (.top, .int .i64 (-4))])]
 refine yf Try.func43 true ⟨[(0, .agg (m1_ref17_Code p0)), (1, vi p1)], [], H⟩ ?_
 unfold ref17_Push at hF
 refine ysg ⟨L8, [B1, B2], H⟩ ?_
 refine w_seq ?_
 obtain ⟨r1, c2, hF⟩ := bind1_inv hF
 let B3 : EB := (2, (m1_ref17_Code r1))
 let E4 : EN := (7, .agg (m1_ref17_Code r1))
 let L10 : List EN := L8 ++ [(8, .agg (m1_ref17_Code r1)), (9, vi p1), (10, .agg [(.top, .int .i64 19), (.top, .int .i64 p1), (.top, .int .i64 15), (.top, .int .i64 0), (.top, .int .i64 0)])]
 refine w_regO ⟨L8, [B3, B2], H⟩ ?_ ?_
 refine yr 2 ⟨L9, [B1, B2], H⟩ ?_
 refine o_one ⟨L9 ++ [E4], [B1, B2], H⟩ (yc (some 7) true false (⟨L9, [B1, B2], H⟩ : St) (ok_ref17_Put H c2)) ?_
 refine yr 1 ⟨L9 ++ [E4], [B3, B2], H⟩ ?_
 exact ye
 refine w_seq ?_
 obtain ⟨r3, c4, hF⟩ := bind1_inv hF
 let E7 : EN := (11, .agg (m1_ref17_Code r3))
 refine w_regO ⟨[E5, E6], [(2, (m1_ref17_Code r3)), B2], H⟩ ?_ ?_
 refine yr 3 ⟨L10, [B3, B2], H⟩ ?_
 refine o_one ⟨L10 ++ [E7], [B3, B2], H⟩ (yc (some 11) true false (⟨L10, [B3, B2], H⟩ : St) (ok_ref17_Put H c4)) ?_
 refine yr 1 ⟨L10 ++ [E7], [(2, (m1_ref17_Code r3)), B2], H⟩ ?_
 exact ye
 refine ysg ⟨[E5, E6], [(2, [((.own 0), .sl 5 (List.map e_ref02_Instr r3.L_)), ((.own 0), .sl 1 (List.map (eI .i64) r3.G_)), ((.own 0), .sl 4 (List.map e_api_Fixup r3.Fixups_)), ((.own 0), .sl 1 (List.map (eI .i64) r3.Pads_)), ((.own 0), .sl 1 (List.map (eI .i64) r3.Active_)), (.top, .int .i64 (IntKind.wrap .i64 (r3.Depth_ + 1))), (.top, .int .i64 r3.Most_), (.top, .int .i64 r3.Err_)]), B2], H⟩ ?_
 refine ysg ⟨[E5, E6], [(2, [((.own 0), .sl 5 (List.map e_ref02_Instr r3.L_)), ((.own 0), .sl 1 (List.map (eI .i64) r3.G_)), ((.own 0), .sl 4 (List.map e_api_Fixup r3.Fixups_)), ((.own 0), .sl 1 (List.map (eI .i64) r3.Pads_)), ((.own 0), .sl 1 (List.map (eI .i64) r3.Active_)), (.top, .int .i64 (IntKind.wrap .i64 (r3.Depth_ + 1))), (.top, .int .i64 (if (IntKind.wrap .i64 (r3.Depth_ + 1)) > r3.Most_ then (IntKind.wrap .i64 (r3.Depth_ + 1)) else r3.Most_)), (.top, .int .i64 r3.Err_)]), B2], H⟩ ?_
 refine ysg ⟨[E6], [(4, [((.own 0), .sl 5 (List.map e_ref02_Instr r3.L_)), ((.own 0), .sl 1 (List.map (eI .i64) r3.G_)), ((.own 0), .sl 4 (List.map e_api_Fixup r3.Fixups_)), ((.own 0), .sl 1 (List.map (eI .i64) r3.Pads_)), ((.own 0), .sl 1 (List.map (eI .i64) r3.Active_)), (.top, .int .i64 (IntKind.wrap .i64 (r3.Depth_ + 1))), (.top, .int .i64 (if (IntKind.wrap .i64 (r3.Depth_ + 1)) > r3.Most_ then (IntKind.wrap .i64 (r3.Depth_ + 1)) else r3.Most_)), (.top, .int .i64 r3.Err_)])], H⟩ ?_
 refine w_ret ?_
 obtain e0 := some1_inv hF
 subst e0
 exact yp (.agg [((.own 0), .sl 5 (List.map e_ref02_Instr r3.L_)), ((.own 0), .sl 1 (List.map (eI .i64) r3.G_)), ((.own 0), .sl 4 (List.map e_api_Fixup r3.Fixups_)), ((.own 0), .sl 1 (List.map (eI .i64) r3.Pads_)), ((.own 0), .sl 1 (List.map (eI .i64) r3.Active_)), (.top, .int .i64 (IntKind.wrap .i64 (r3.Depth_ + 1))), (.top, .int .i64 (if (IntKind.wrap .i64 (r3.Depth_ + 1)) > r3.Most_ then (IntKind.wrap .i64 (r3.Depth_ + 1)) else r3.Most_)), (.top, .int .i64 r3.Err_)])
theorem ok_ref17_Pop_2 (H : Heap) {p0 : T_ref17_Code} {p1 : Int} {ra : T_ref17_Code} (hF : ref17_Pop p0 p1 = some ra) : evS X 45 [.agg (m1_ref17_Code p0), .one .top (.int .i64 p1)] H = some (.agg (m1_ref17_Code ra), H) := by
 let B1 : EB := (2, (m1_ref17_Code p0))
 let B2 : EB := (4, [((.own 1), .sl 5 (List.map e_ref02_Instr ([] : List T_ref02_Instr))), ((.own 1), .sl 1 (List.map (eI .i64) ([] : List Int))), ((.own 1), .sl 4 (List.map e_api_Fixup ([] : List T_api_Fixup))), ((.own 1), .sl 1 (List.map (eI .i64) ([] : List Int))), ((.own 1), .sl 1 (List.map (eI .i64) ([] : List Int))), (.top, .int .i64 0), (.top, .int .i64 0), (.top, .int .i64 0)])
 let L6 : List EN := [(2, vl 2 0), (4, vl 4 0)]
 let L8 : List EN := [(1, vi p1)] ++ L6 ++ [(5, .agg (m1_ref17_Code p0)), (6, vi p1), (7, .agg [(.top, .int .i64 18), (.top, .int .i64 p1), (.top, .int .i64 15), (.top, .int .i64 0), (.top, .int .i64 0)])]
 refine yf Try.func45 true ⟨[(0, .agg (m1_ref17_Code p0)), (1, vi p1)], [], H⟩ ?_
 unfold ref17_Pop at hF
 refine ysg ⟨[(1, vi p1)] ++ L6, [B1, B2], H⟩ ?_
 refine w_seq ?_
 obtain ⟨r1, c2, hF⟩ := bind1_inv hF
 let B3 : EB := (2, (m1_ref17_Code r1))
 let E4 : EN := (8, .agg (m1_ref17_Code r1))
 let L7 : List EN := L6 ++ [(9, .agg (m1_ref17_Code r1)), (10, .agg [(.top, .int .i64 5), (.top, .int .i64 15), (.top, .int .i64 15), (.top, .int .i64 0), (.top, .int .i64 4)])]
 refine w_regO ⟨L6, [B3, B2], H⟩ ?_ ?_
 refine yr 3 ⟨L8, [B1, B2], H⟩ ?_
 refine o_one ⟨L8 ++ [E4], [B1, B2], H⟩ (yc (some 8) true false (⟨L8, [B1, B2], H⟩ : St) (ok_ref17_Put H c2)) ?_
 refine yr 1 ⟨L8 ++ [E4], [B3, B2], H⟩ ?_
 exact ye
 refine w_seq ?_
 obtain ⟨r3, c4, hF⟩ := bind1_inv hF
 let E5 : EN := (11, .agg (m1_ref17_Code r3))
 refine w_regO ⟨L6, [(2, (m1_ref17_Code r3)), B2], H⟩ ?_ ?_
 refine yr 2 ⟨L7, [B3, B2], H⟩ ?_
 refine o_one ⟨L7 ++ [E5], [B3, B2], H⟩ (yc (some 11) true false (⟨L7, [B3, B2], H⟩ : St) (ok_ref17_Put H c4)) ?_
 refine yr 1 ⟨L7 ++ [E5], [(2, (m1_ref17_Code r3)), B2], H⟩ ?_
 exact ye
 refine ysg ⟨L6, [(2, [((.own 0), .sl 5 (List.map e_ref02_Instr r3.L_)), ((.own 0), .sl 1 (List.map (eI .i64) r3.G_)), ((.own 0), .sl 4 (List.map e_api_Fixup r3.Fixups_)), ((.own 0), .sl 1 (List.map (eI .i64) r3.Pads_)), ((.own 0), .sl 1 (List.map (eI .i64) r3.Active_)), (.top, .int .i64 (if (IntKind.wrap .i64 (r3.Depth_ - 1)) > 0 then (IntKind.wrap .i64 (r3.Depth_ - 1)) else 0)), (.top, .int .i64 r3.Most_), (.top, .int .i64 r3.Err_)]), B2], H⟩ ?_
 refine ysg ⟨[(4, vl 4 0)], [(4, [((.own 0), .sl 5 (List.map e_ref02_Instr r3.L_)), ((.own 0), .sl 1 (List.map (eI .i64) r3.G_)), ((.own 0), .sl 4 (List.map e_api_Fixup r3.Fixups_)), ((.own 0), .sl 1 (List.map (eI .i64) r3.Pads_)), ((.own 0), .sl 1 (List.map (eI .i64) r3.Active_)), (.top, .int .i64 (if (IntKind.wrap .i64 (r3.Depth_ - 1)) > 0 then (IntKind.wrap .i64 (r3.Depth_ - 1)) else 0)), (.top, .int .i64 r3.Most_), (.top, .int .i64 r3.Err_)])], H⟩ ?_
 refine w_ret ?_
 obtain e0 := some1_inv hF
 subst e0
 exact yp (.agg [((.own 0), .sl 5 (List.map e_ref02_Instr r3.L_)), ((.own 0), .sl 1 (List.map (eI .i64) r3.G_)), ((.own 0), .sl 4 (List.map e_api_Fixup r3.Fixups_)), ((.own 0), .sl 1 (List.map (eI .i64) r3.Pads_)), ((.own 0), .sl 1 (List.map (eI .i64) r3.Active_)), (.top, .int .i64 (if (IntKind.wrap .i64 (r3.Depth_ - 1)) > 0 then (IntKind.wrap .i64 (r3.Depth_ - 1)) else 0)), (.top, .int .i64 r3.Most_), (.top, .int .i64 r3.Err_)])
theorem ok_law17_writes_2 (H : Heap) {p0 : Ptr} {p1 : T_ref17_Code} {p2 : T_law17_Op} {ra : T_ref17_Code} {Hr : Heap} (hF : law17_writes H p0 p1 p2 = some (Hr, ra)) : evS X 17 [.one .top (Ptr.av p0), .agg (m1_ref17_Code p1), .agg (m0_law17_Op p2)] H = some (.agg (m1_ref17_Code ra), Hr) := by
 let E1 : Ptr → EN := fun z0 => (0, vp z0)
 let B2 : EB := (4, (m1_ref17_Code p1))
 let B3 : EB := (5, (m0_law17_Op p2))
 let B4 : EB := (6, [((.own 1), .sl 5 (List.map e_ref02_Instr ([] : List T_ref02_Instr))), ((.own 1), .sl 1 (List.map (eI .i64) ([] : List Int))), ((.own 1), .sl 4 (List.map e_api_Fixup ([] : List T_api_Fixup))), ((.own 1), .sl 1 (List.map (eI .i64) ([] : List Int))), ((.own 1), .sl 1 (List.map (eI .i64) ([] : List Int))), (.top, .int .i64 0), (.top, .int .i64 0), (.top, .int .i64 0)])
 let E5 : EN := (6, vl 6 0)
 let L17 : List EN := [(4, vl 4 0), (5, vl 5 0), E5]
 let L18 : Ptr → List EN := fun z0 => [(E1 z0)] ++ L17
 let L19 : Ptr → List EN := fun z0 => (L18 z0) ++ [(8, vi p2.Kind_)]
 let L20 : List EN := [(4, vl 4 0), E5]
 let L23 : List EN := L17 ++ [(63, .agg (m1_ref17_Code p1)), (64, .agg ([(.top, .int .i64 22)] ++ List.replicate 4 (.top, .int .i64 0)))]
 let L24 : List EN := L20 ++ [(54, .agg (m1_ref17_Code p1)), (55, .agg ([(.top, .int .i64 22)] ++ List.replicate 4 (.top, .int .i64 0)))]
 let L26 : List EN := L17 ++ [(43, .agg (m1_ref17_Code p1)), (44, vl 5 7), (45, vi p2.A_), (46, vl 5 6), (47, vi p2.N_), (48, .one .top (.int .i32 (IntKind.wrap .i32 p2.N_)))]
 let L27 : List EN := L17 ++ [(106, .agg (m1_ref17_Code p1)), (107, vl 5 7), (108, vi p2.A_)]
 let L28 : List EN := L17 ++ [(116, .agg (m1_ref17_Code p1)), (117, vl 5 7), (118, vi p2.A_)]
 let L29 : List EN := L17 ++ [(90, .agg (m1_ref17_Code p1)), (91, vl 5 6), (92, vi p2.N_), (93, vl 5 7), (94, vi p2.A_), (95, vl 5 8), (96, vi p2.B_), (97, vl 5 9), (98, vi p2.C_)]
 let L30 : List EN := L17 ++ [(16, .agg (m1_ref17_Code p1)), (17, vl 5 1), (18, vl 5 1), (19, vi p2.I_.Op_), (20, vl 5 1), (21, vl 5 2), (22, vi p2.I_.A_), (23, vl 5 1), (24, vl 5 3), (25, vi p2.I_.B_), (26, vl 5 1), (27, vl 5 4), (28, vi p2.I_.C_), (29, vl 5 1), (30, vl 5 5), (31, vi p2.I_.Imm_), (32, .agg [(.top, .int .i64 p2.I_.Op_), (.top, .int .i64 p2.I_.A_), (.top, .int .i64 p2.I_.B_), (.top, .int .i64 p2.I_.C_), (.top, .int .i64 p2.I_.Imm_)])]
 let L31 : Ptr → List EN := fun z0 => (L18 z0) ++ [(12, vp z0), (13, vl 5 1), (14, .agg [(.top, .int .i64 p2.I_.Op_), (.top, .int .i64 p2.I_.A_), (.top, .int .i64 p2.I_.B_), (.top, .int .i64 p2.I_.C_), (.top, .int .i64 p2.I_.Imm_)])]
 let L32 : Ptr → List EN := fun z0 => (L18 z0) ++ [(36, vp z0), (37, vl 5 7), (38, vi p2.A_), (39, vl 5 6), (40, vi p2.N_), (41, .one .top (.int .i32 (IntKind.wrap .i32 p2.N_)))]
 let L33 : Ptr → List EN := fun z0 => (L18 z0) ++ [(59, vp z0), (60, vl 5 7), (61, vi p2.A_)]
 let L34 : Ptr → List EN := fun z0 => (L18 z0) ++ [(102, vp z0), (103, vl 5 7), (104, vi p2.A_)]
 let L35 : Ptr → List EN := fun z0 => (L18 z0) ++ [(112, vp z0), (113, vl 5 7), (114, vi p2.A_)]
 let L36 : Ptr → List EN := fun z0 => (L18 z0) ++ [(80, vp z0), (81, vl 5 6), (82, vi p2.N_), (83, vl 5 7), (84, vi p2.A_), (85, vl 5 8), (86, vi p2.B_), (87, vl 5 9), (88, vi p2.C_)]
 let S37 : Ptr → St := fun z0 => ⟨[(E1 z0)] ++ L20 ++ [(52, vp z0)], [B2, B4], H⟩
 refine yf Try.func17 false ⟨[(E1 p0), (1, .agg (m1_ref17_Code p1)), (2, .agg (m0_law17_Op p2))], [], H⟩ ?_
 unfold law17_writes at hF
 refine ysg ⟨(L18 p0), [B2, B3, B4], H⟩ ?_ (h := (by generalize p0 = qp0; cases qp0 <;> kernel_rfl))
 refine ysg ⟨(L19 p0), [B2, B3, B4], H⟩ ?_ (h := (by generalize p0 = qp0; cases qp0 <;> kernel_rfl))
 refine w_block ?_
 refine ysg ⟨(L19 p0) ++ [(10, vb (p2.Kind_ == 0))], [B2, B3, B4], H⟩ ?_ (h := (by generalize p0 = qp0; cases qp0 <;> kernel_rfl))
 rcases if_inv hF with ⟨h1, hF⟩ | ⟨h1, hF⟩
 refine yT h1 ⟨(L18 p0), [B2, B3, B4], H⟩ ?_
 refine w_seq ?_
 obtain ⟨H4, r2, c3, hF⟩ := bind2_inv hF
 refine w_regO ⟨L17, [B2, B3, B4], H4⟩ ?_ ?_
 refine yr 3 ⟨(L31 p0), [B2, B3, B4], H⟩ ?_ (h := (by generalize p0 = qp0; cases qp0 <;> kernel_rfl))
 refine o_one ⟨(L31 p0) ++ [(15, vi r2)], [B2, B3, B4], H4⟩ (yc (some 15) false false (⟨(L31 p0), [B2, B3, B4], H⟩ : St) (ok_emit_Code_Put H c3) (hr := (by generalize p0 = qp0; cases qp0 <;> kernel_rfl)) (hs := (by generalize p0 = qp0; cases qp0 <;> kernel_rfl))) ?_
 exact ye
 refine w_seq ?_
 obtain ⟨r5, c6, hF⟩ := bind1_inv hF
 let E6 : EN := (33, .agg (m1_ref17_Code r5))
 refine w_regO ⟨[E5], [(6, (m1_ref17_Code r5))], H4⟩ ?_ ?_
 refine yr 17 ⟨L30, [B2, B3, B4], H4⟩ ?_
 refine o_one ⟨L30 ++ [E6], [B2, B3, B4], H4⟩ (yc (some 33) true false (⟨L30, [B2, B3, B4], H4⟩ : St) (ok_ref17_Put H4 c6)) ?_
 refine yr 1 ⟨L30 ++ [E6], [B2, B3, (6, (m1_ref17_Code r5))], H4⟩ ?_
 exact ye
 refine w_ret ?_
 obtain ⟨e0, e1⟩ := some2_inv hF
 subst e0
 subst e1
 exact yi (.agg (m1_ref17_Code r5))
 refine yF h1 ⟨(L19 p0), [B2, B3, B4], H⟩ ?_
 refine ysg ⟨(L19 p0) ++ [(34, vb (p2.Kind_ == 1))], [B2, B3, B4], H⟩ ?_ (h := (by generalize p0 = qp0; cases qp0 <;> kernel_rfl))
 rcases if_inv hF with ⟨h7, hF⟩ | ⟨h7, hF⟩
 refine yT h7 ⟨(L18 p0), [B2, B3, B4], H⟩ ?_
 refine w_seq ?_
 obtain ⟨H9, c8, hF⟩ := bind1_inv hF
 refine w_regO ⟨L17, [B2, B3, B4], H9⟩ ?_ ?_
 refine yr 6 ⟨(L32 p0), [B2, B3, B4], H⟩ ?_ (h := (by generalize p0 = qp0; cases qp0 <;> kernel_rfl))
 refine o_one ⟨(L32 p0) ++ [(42, vN)], [B2, B3, B4], H9⟩ (yc (some 42) false false (⟨(L32 p0), [B2, B3, B4], H⟩ : St) (ok_emit_Code_Number H c8) (hr := (by generalize p0 = qp0; cases qp0 <;> kernel_rfl)) (hs := (by generalize p0 = qp0; cases qp0 <;> kernel_rfl))) ?_
 exact ye
 refine w_seq ?_
 obtain ⟨r10, c11, hF⟩ := bind1_inv hF
 let E7 : EN := (49, .agg (m1_ref17_Code r10))
 refine w_regO ⟨[E5], [(6, (m1_ref17_Code r10))], H9⟩ ?_ ?_
 refine yr 6 ⟨L26, [B2, B3, B4], H9⟩ ?_
 refine o_one ⟨L26 ++ [E7], [B2, B3, B4], H9⟩ (yc (some 49) true false (⟨L26, [B2, B3, B4], H9⟩ : St) (ok_ref17_Number_2 H9 c11)) ?_
 refine yr 1 ⟨L26 ++ [E7], [B2, B3, (6, (m1_ref17_Code r10))], H9⟩ ?_
 exact ye
 refine w_ret ?_
 obtain ⟨e0, e1⟩ := some2_inv hF
 subst e0
 subst e1
 exact yi (.agg (m1_ref17_Code r10))
 refine yF h7 ⟨(L19 p0), [B2, B3, B4], H⟩ ?_
 refine ysg ⟨(L19 p0) ++ [(50, vb (p2.Kind_ == 2))], [B2, B3, B4], H⟩ ?_ (h := (by generalize p0 = qp0; cases qp0 <;> kernel_rfl))
 rcases if_inv hF with ⟨h12, hF⟩ | ⟨h12, hF⟩
 refine yT h12 ⟨[(E1 p0)] ++ L20, [B2, B4], H⟩ ?_
 refine w_seq ?_
 obtain ⟨H15, r13, c14, hF⟩ := bind2_inv hF
 refine w_regO ⟨L20, [B2, B4], H15⟩ ?_ ?_
 refine yr 1 (S37 p0) ?_ (h := (by generalize p0 = qp0; cases qp0 <;> kernel_rfl))
 refine o_one ⟨[(E1 p0)] ++ L20 ++ [(52, vp p0), (53, vi r13)], [B2, B4], H15⟩ (yc (some 53) false false (S37 p0) (ok_emit_Code_Jump H c14) (hr := (by generalize p0 = qp0; cases qp0 <;> kernel_rfl)) (hs := (by generalize p0 = qp0; cases qp0 <;> kernel_rfl))) ?_
 exact ye
 refine w_seq ?_
 obtain ⟨r16, c17, hF⟩ := bind1_inv hF
 let E8 : EN := (56, .agg (m1_ref17_Code r16))
 refine w_regO ⟨[E5], [(6, (m1_ref17_Code r16))], H15⟩ ?_ ?_
 refine yr 2 ⟨L24, [B2, B4], H15⟩ ?_
 refine o_one ⟨L24 ++ [E8], [B2, B4], H15⟩ (yc (some 56) true false (⟨L24, [B2, B4], H15⟩ : St) (ok_ref17_Put H15 c17)) ?_
 refine yr 1 ⟨L24 ++ [E8], [B2, (6, (m1_ref17_Code r16))], H15⟩ ?_
 exact ye
 refine w_ret ?_
 obtain ⟨e0, e1⟩ := some2_inv hF
 subst e0
 subst e1
 exact yi (.agg (m1_ref17_Code r16))
 refine yF h12 ⟨(L19 p0), [B2, B3, B4], H⟩ ?_
 refine ysg ⟨(L19 p0) ++ [(57, vb (p2.Kind_ == 4))], [B2, B3, B4], H⟩ ?_ (h := (by generalize p0 = qp0; cases qp0 <;> kernel_rfl))
 rcases if_inv hF with ⟨h18, hF⟩ | ⟨h18, hF⟩
 refine yT h18 ⟨(L18 p0), [B2, B3, B4], H⟩ ?_
 refine w_seq ?_
 obtain ⟨H20, c19, hF⟩ := bind1_inv hF
 refine w_regO ⟨L17, [B2, B3, B4], H20⟩ ?_ ?_
 refine yr 3 ⟨(L33 p0), [B2, B3, B4], H⟩ ?_ (h := (by generalize p0 = qp0; cases qp0 <;> kernel_rfl))
 refine o_one ⟨(L33 p0) ++ [(62, vN)], [B2, B3, B4], H20⟩ (yc (some 62) false false (⟨(L33 p0), [B2, B3, B4], H⟩ : St) (ok_emit_Code_Back H c19) (hr := (by generalize p0 = qp0; cases qp0 <;> kernel_rfl)) (hs := (by generalize p0 = qp0; cases qp0 <;> kernel_rfl))) ?_
 exact ye
 refine w_seq ?_
 obtain ⟨r21, c22, hF⟩ := bind1_inv hF
 let B9 : EB := (4, (m1_ref17_Code r21))
 let E10 : EN := (65, .agg (m1_ref17_Code r21))
 let E11 : EN := (69, vi (r21.L_.length : Int))
 let E12 : EN := (75, vi (r21.L_.length : Int))
 let L21 : List EN := L17 ++ [(66, .agg (m1_ref17_Code r21)), (67, vl 4 0), (68, .one (.own 0) (.sl 5 (List.map e_ref02_Instr r21.L_)))]
 let L22 : List EN := L21 ++ [E11, (70, vi (IntKind.wrap .i64 ((r21.L_.length : Int) - 1))), (71, vl 5 7), (72, vi p2.A_), (73, vl 4 0), (74, .one (.own 0) (.sl 5 (List.map e_ref02_Instr r21.L_)))]
 let L25 : List EN := L22 ++ [E12, (76, vi (IntKind.wrap .i64 (p2.A_ - (r21.L_.length : Int))))]
 refine w_regO ⟨L17, [B9, B3, B4], H20⟩ ?_ ?_
 refine yr 2 ⟨L23, [B2, B3, B4], H20⟩ ?_
 refine o_one ⟨L23 ++ [E10], [B2, B3, B4], H20⟩ (yc (some 65) true false (⟨L23, [B2, B3, B4], H20⟩ : St) (ok_ref17_Put H20 c22)) ?_
 refine yr 1 ⟨L23 ++ [E10], [B9, B3, B4], H20⟩ ?_
 exact ye
 refine w_seq ?_
 obtain ⟨r23, c24, hF⟩ := bind1_inv hF
 let E13 : EN := (77, .agg (m1_ref17_Code r23))
 refine w_regO ⟨[E5], [(6, (m1_ref17_Code r23))], H20⟩ ?_ ?_
 refine yr 3 ⟨L21, [B9, B3, B4], H20⟩ ?_
 refine o_one ⟨L21 ++ [E11], [B9, B3, B4], H20⟩ (yl (⟨L21, [B9, B3, B4], H20⟩ : St) r21.L_ e_ref02_Instr (some 69)) ?_
 refine yr 5 ⟨L22, [B9, B3, B4], H20⟩ ?_
 refine o_one ⟨L22 ++ [E12], [B9, B3, B4], H20⟩ (yl (⟨L22, [B9, B3, B4], H20⟩ : St) r21.L_ e_ref02_Instr (some 75)) ?_
 refine yr 1 ⟨L25, [B9, B3, B4], H20⟩ ?_
 refine o_one ⟨L25 ++ [E13], [B9, B3, B4], H20⟩ (yc (some 77) true false (⟨L25, [B9, B3, B4], H20⟩ : St) (ok_ref17_Patch H20 c24)) ?_
 refine yr 1 ⟨L25 ++ [E13], [B9, B3, (6, (m1_ref17_Code r23))], H20⟩ ?_
 exact ye
 refine w_ret ?_
 obtain ⟨e0, e1⟩ := some2_inv hF
 subst e0
 subst e1
 exact yi (.agg (m1_ref17_Code r23))
 refine yF h18 ⟨(L19 p0), [B2, B3, B4], H⟩ ?_
 refine ysg ⟨(L19 p0) ++ [(78, vb (p2.Kind_ == 6))], [B2, B3, B4], H⟩ ?_ (h := (by generalize p0 = qp0; cases qp0 <;> kernel_rfl))
 rcases if_inv hF with ⟨h25, hF⟩ | ⟨h25, hF⟩
 refine yT h25 ⟨(L18 p0), [B2, B3, B4], H⟩ ?_
 refine w_seq ?_
 obtain ⟨H27, c26, hF⟩ := bind1_inv hF
 refine w_regO ⟨L17, [B2, B3, B4], H27⟩ ?_ ?_
 refine yr 9 ⟨(L36 p0), [B2, B3, B4], H⟩ ?_ (h := (by generalize p0 = qp0; cases qp0 <;> kernel_rfl))
 refine o_one ⟨(L36 p0) ++ [(89, vN)], [B2, B3, B4], H27⟩ (yc (some 89) false false (⟨(L36 p0), [B2, B3, B4], H⟩ : St) (ok_emit_Code_Fix H c26) (hr := (by generalize p0 = qp0; cases qp0 <;> kernel_rfl)) (hs := (by generalize p0 = qp0; cases qp0 <;> kernel_rfl))) ?_
 exact ye
 refine w_seq ?_
 obtain ⟨r28, c29, hF⟩ := bind1_inv hF
 let E14 : EN := (99, .agg (m1_ref17_Code r28))
 refine w_regO ⟨[E5], [(6, (m1_ref17_Code r28))], H27⟩ ?_ ?_
 refine yr 9 ⟨L29, [B2, B3, B4], H27⟩ ?_
 refine o_one ⟨L29 ++ [E14], [B2, B3, B4], H27⟩ (yc (some 99) true false (⟨L29, [B2, B3, B4], H27⟩ : St) (ok_ref17_Fix_2 H27 c29)) ?_
 refine yr 1 ⟨L29 ++ [E14], [B2, B3, (6, (m1_ref17_Code r28))], H27⟩ ?_
 exact ye
 refine w_ret ?_
 obtain ⟨e0, e1⟩ := some2_inv hF
 subst e0
 subst e1
 exact yi (.agg (m1_ref17_Code r28))
 refine yF h25 ⟨(L19 p0), [B2, B3, B4], H⟩ ?_
 refine ysg ⟨(L19 p0) ++ [(100, vb (p2.Kind_ == 7))], [B2, B3, B4], H⟩ ?_ (h := (by generalize p0 = qp0; cases qp0 <;> kernel_rfl))
 rcases if_inv hF with ⟨h30, hF⟩ | ⟨h30, hF⟩
 refine yT h30 ⟨(L18 p0), [B2, B3, B4], H⟩ ?_
 refine w_seq ?_
 obtain ⟨H32, c31, hF⟩ := bind1_inv hF
 refine w_regO ⟨L17, [B2, B3, B4], H32⟩ ?_ ?_
 refine yr 3 ⟨(L34 p0), [B2, B3, B4], H⟩ ?_ (h := (by generalize p0 = qp0; cases qp0 <;> kernel_rfl))
 refine o_one ⟨(L34 p0) ++ [(105, vN)], [B2, B3, B4], H32⟩ (yc (some 105) false false (⟨(L34 p0), [B2, B3, B4], H⟩ : St) (ok_emit_Code_Push H c31) (hr := (by generalize p0 = qp0; cases qp0 <;> kernel_rfl)) (hs := (by generalize p0 = qp0; cases qp0 <;> kernel_rfl))) ?_
 exact ye
 refine w_seq ?_
 obtain ⟨r33, c34, hF⟩ := bind1_inv hF
 let E15 : EN := (109, .agg (m1_ref17_Code r33))
 refine w_regO ⟨[E5], [(6, (m1_ref17_Code r33))], H32⟩ ?_ ?_
 refine yr 3 ⟨L27, [B2, B3, B4], H32⟩ ?_
 refine o_one ⟨L27 ++ [E15], [B2, B3, B4], H32⟩ (yc (some 109) true false (⟨L27, [B2, B3, B4], H32⟩ : St) (ok_ref17_Push_2 H32 c34)) ?_
 refine yr 1 ⟨L27 ++ [E15], [B2, B3, (6, (m1_ref17_Code r33))], H32⟩ ?_
 exact ye
 refine w_ret ?_
 obtain ⟨e0, e1⟩ := some2_inv hF
 subst e0
 subst e1
 exact yi (.agg (m1_ref17_Code r33))
 refine yF h30 ⟨(L19 p0), [B2, B3, B4], H⟩ ?_
 refine ysg ⟨(L18 p0) ++ [(110, vb (p2.Kind_ == 8))], [B2, B3, B4], H⟩ ?_ (h := (by generalize p0 = qp0; cases qp0 <;> kernel_rfl))
 rcases if_inv hF with ⟨h35, hF⟩ | ⟨h35, hF⟩
 refine yT h35 ⟨(L18 p0), [B2, B3, B4], H⟩ ?_
 refine w_seq ?_
 obtain ⟨H37, c36, hF⟩ := bind1_inv hF
 refine w_regO ⟨L17, [B2, B3, B4], H37⟩ ?_ ?_
 refine yr 3 ⟨(L35 p0), [B2, B3, B4], H⟩ ?_ (h := (by generalize p0 = qp0; cases qp0 <;> kernel_rfl))
 refine o_one ⟨(L35 p0) ++ [(115, vN)], [B2, B3, B4], H37⟩ (yc (some 115) false false (⟨(L35 p0), [B2, B3, B4], H⟩ : St) (ok_emit_Code_Pop H c36) (hr := (by generalize p0 = qp0; cases qp0 <;> kernel_rfl)) (hs := (by generalize p0 = qp0; cases qp0 <;> kernel_rfl))) ?_
 exact ye
 refine w_seq ?_
 obtain ⟨r38, c39, hF⟩ := bind1_inv hF
 let E16 : EN := (119, .agg (m1_ref17_Code r38))
 refine w_regO ⟨[E5], [(6, (m1_ref17_Code r38))], H37⟩ ?_ ?_
 refine yr 3 ⟨L28, [B2, B3, B4], H37⟩ ?_
 refine o_one ⟨L28 ++ [E16], [B2, B3, B4], H37⟩ (yc (some 119) true false (⟨L28, [B2, B3, B4], H37⟩ : St) (ok_ref17_Pop_2 H37 c39)) ?_
 refine yr 1 ⟨L28 ++ [E16], [B2, B3, (6, (m1_ref17_Code r38))], H37⟩ ?_
 exact ye
 refine w_ret ?_
 obtain ⟨e0, e1⟩ := some2_inv hF
 subst e0
 subst e1
 exact yi (.agg (m1_ref17_Code r38))
 refine yF h35 ⟨L20, [B2, B4], H⟩ ?_
 refine ysg ⟨[E5], [(6, (m1_ref17_Code p1))], H⟩ ?_
 refine w_ret ?_
 obtain ⟨e0, e1⟩ := some2_inv hF
 subst e0
 subst e1
 exact yi (.agg (m1_ref17_Code p1))
noncomputable def emit_Code_Depth (H : Heap) (p0 : Ptr) : Option (Int) :=
  (p0).bnd fun i1 o2 =>
  bind1 (get_emit_Code H i1 o2) fun x4 =>
  some x4.depth_
theorem ok_emit_Code_Depth (H : Heap) {p0 : Ptr} {ra : Int} (hF : emit_Code_Depth H p0 = some ra) : evS X 20 [.one .top (Ptr.av p0)] H = some (.one .top (.int .i64 ra), H) := by
 refine yf Try.func20 true ⟨[(0, vp p0)], [], H⟩ ?_
 unfold emit_Code_Depth at hF
 refine ysg ⟨[(0, vp p0)], [], H⟩ ?_ (h := (by generalize p0 = qp0; cases qp0 <;> kernel_rfl))
 refine w_seq ?_
 obtain ⟨i1, o2, h3, hF⟩ := pbnd_inv hF
 let L1 : List EN := [(0, vo i1 o2), (3, vo i1 o2), (4, vo i1 o2), (5, vo i1 (o2 + 5))]
 obtain ⟨x4, V5, hF⟩ := bind1_inv hF
 replace V5 := hgetT_inv V5
 refine w_regO ⟨[(2, vi x4.depth_)], [], H⟩ ?_ ?_
 refine yr 1 ⟨[(0, vp p0), (3, vp p0)], [], H⟩ ?_ (h := (by generalize p0 = qp0; cases qp0 <;> kernel_rfl))
 refine o_eq (congrArg (fun q => (⟨[(0, vp q), (3, vp q)], [], H⟩ : St)) h3) ?_
 refine yr 1 ⟨[(0, vo i1 o2), (3, vo i1 o2), (4, vo i1 o2)], [], H⟩ ?_
 refine yr 1 ⟨L1, [], H⟩ ?_
 refine o_one ⟨L1 ++ [(6, vi x4.depth_)], [], H⟩ (yd (X := X) (⟨L1, [], H⟩ : St) 3 V5 5 1 false (vi x4.depth_) (some 6)) ?_
 refine yr 1 ⟨[(0, vo i1 o2), (2, vi x4.depth_), (3, vo i1 o2), (4, vo i1 o2), (5, vo i1 (o2 + 5)), (6, vi x4.depth_)], [], H⟩ ?_
 exact ye
 refine w_ret ?_
 obtain e0 := some1_inv hF
 subst e0
 exact yp (vi x4.depth_)
noncomputable def emit_Code_Err (H : Heap) (p0 : Ptr) : Option (Int) :=
  (p0).bnd fun i1 o2 =>
  bind1 (get_emit_Code H i1 o2) fun x4 =>
  some x4.err_
theorem ok_emit_Code_Err (H : Heap) {p0 : Ptr} {ra : Int} (hF : emit_Code_Err H p0 = some ra) : evS X 21 [.one .top (Ptr.av p0)] H = some (.one .top (.int .i64 ra), H) := by
 refine yf Try.func21 true ⟨[(0, vp p0)], [], H⟩ ?_
 unfold emit_Code_Err at hF
 refine ysg ⟨[(0, vp p0)], [], H⟩ ?_ (h := (by generalize p0 = qp0; cases qp0 <;> kernel_rfl))
 refine w_seq ?_
 obtain ⟨i1, o2, h3, hF⟩ := pbnd_inv hF
 let L1 : List EN := [(0, vo i1 o2), (3, vo i1 o2), (4, vo i1 o2), (5, vo i1 (o2 + 7))]
 obtain ⟨x4, V5, hF⟩ := bind1_inv hF
 replace V5 := hgetT_inv V5
 refine w_regO ⟨[(2, vi x4.err_)], [], H⟩ ?_ ?_
 refine yr 1 ⟨[(0, vp p0), (3, vp p0)], [], H⟩ ?_ (h := (by generalize p0 = qp0; cases qp0 <;> kernel_rfl))
 refine o_eq (congrArg (fun q => (⟨[(0, vp q), (3, vp q)], [], H⟩ : St)) h3) ?_
 refine yr 1 ⟨[(0, vo i1 o2), (3, vo i1 o2), (4, vo i1 o2)], [], H⟩ ?_
 refine yr 1 ⟨L1, [], H⟩ ?_
 refine o_one ⟨L1 ++ [(6, vi x4.err_)], [], H⟩ (yd (X := X) (⟨L1, [], H⟩ : St) 37 V5 7 1 false (vi x4.err_) (some 6)) ?_
 refine yr 1 ⟨[(0, vo i1 o2), (2, vi x4.err_), (3, vo i1 o2), (4, vo i1 o2), (5, vo i1 (o2 + 7)), (6, vi x4.err_)], [], H⟩ ?_
 exact ye
 refine w_ret ?_
 obtain e0 := some1_inv hF
 subst e0
 exact yp (vi x4.err_)
noncomputable def law17_played_j2 (a7 : Int) (u13 : (Option (List Int))) (j14 : (List Int)) (j15 : Int) (j16 : T_ref17_Code) (H17 : Heap) : Option (((Option (List Int)) × Int × Int × T_ref17_Code × (List Int) × Heap) ⊕ ((T_ref17_Code × Heap) ⊕ (T_ref17_Code × Heap))) :=
  some (Sum.inl (u13, j15, (IntKind.wrap .i64 (a7 + 1)), j16, j14, H17))
noncomputable def law17_played_j4 (r1 : Ptr) (a7 : Int) (j25 : (List Int)) (u36 : (Option (List Int))) (j37 : Int) (j38 : T_ref17_Code) (H39 : Heap) : Option (((Option (List Int)) × Int × Int × T_ref17_Code × (List Int) × Heap) ⊕ ((T_ref17_Code × Heap) ⊕ (T_ref17_Code × Heap))) :=
  bind1 (emit_Code_Here H39 r1) fun r40 =>
  bind1 (if (r40 != (j38.L_.length : Int)) = true then (some true) else (bind1 (emit_Code_Depth H39 r1) fun r43 =>
  if (r43 != j38.Depth_) = true then (some true) else (bind1 (emit_Code_Err H39 r1) fun r46 =>
  some (r46 != j38.Err_)))) fun w48 =>
  if w48 = true then (some (Sum.inr (Sum.inr (j38, H39))))
  else (law17_played_j2 a7 u36 j25 j37 j38 H39)
noncomputable def law17_played_j3 (r1 : Ptr) (x18 : T_law17_Op) (a7 : Int) (u24 : (Option (List Int))) (j25 : (List Int)) (j26 : Int) (j27 : T_ref17_Code) (H28 : Heap) : Option (((Option (List Int)) × Int × Int × T_ref17_Code × (List Int) × Heap) ⊕ ((T_ref17_Code × Heap) ⊕ (T_ref17_Code × Heap))) :=
  bind2 (law17_writes H28 r1 j27 x18) fun H31 r29 =>
  bind2 (law17_others H31 r1 r29 x18) fun H34 r32 =>
  if ((decide (j26 ≥ 0)) && (decide (a7 ≥ (IntKind.wrap .i64 (j26 + 2))))) = true then (bind1 u24 fun v52 =>
  bind1 (emit_Code_Show H34 r1 v52) fun H55 =>
  law17_played_j4 r1 a7 j25 none (-1) (T_ref17_Code.mk r32.L_ r32.G_ r32.Fixups_ r32.Pads_ j25 r32.Depth_ r32.Most_ r32.Err_) H55)
  else (law17_played_j4 r1 a7 j25 u24 j26 r32 H34)
noncomputable def law17_played_L1 (p0 : (List T_law17_Op)) (r1 : Ptr) (u5 : (Option (List Int))) (a6 : Int) (a7 : Int) (a8 : T_ref17_Code) (a9 : (List Int)) (H10 : Heap) : Option (((Option (List Int)) × Int × Int × T_ref17_Code × (List Int) × Heap) ⊕ ((T_ref17_Code × Heap) ⊕ (T_ref17_Code × Heap))) :=
  if ((decide (a7 < (p0.length : Int))) && (decide (a7 < 80))) = true then (bind1 (gi p0 a7) fun x18 =>
  bind1 (law17_small x18) fun r20 =>
  if (!r20) = true then (law17_played_j2 a7 u5 a9 a6 a8 H10)
  else (if ((x18.Kind_ == 14) && (decide (a6 < 0))) = true then (bind2 (emit_Code_Hide H10 r1) fun H59 r57 =>
  law17_played_j3 r1 x18 a7 (some r57) a8.Active_ a7 (T_ref17_Code.mk a8.L_ a8.G_ a8.Fixups_ a8.Pads_ ([] : List Int) a8.Depth_ a8.Most_ a8.Err_) H59)
  else (law17_played_j3 r1 x18 a7 u5 a9 a6 a8 H10)))
  else (some (Sum.inr (Sum.inl (a8, H10))))
noncomputable def law17_played (H : Heap) (p0 : (List T_law17_Op)) : Option (Heap × Ptr × T_ref17_Code × Bool) :=
  bind2 (emit_New H) fun H3 r1 =>
  if r1.isNil = true then (some (H3, Ptr.nil, (T_ref17_Code.mk ([] : List T_ref02_Instr) ([] : List Int) ([] : List T_api_Fixup) ([] : List Int) ([] : List Int) 0 0 0), false))
  else (bind1 (loopO (fun (x : ((Option (List Int)) × Int × Int × T_ref17_Code × (List Int) × Heap)) => law17_played_L1 p0 r1 x.1 x.2.1 x.2.2.1 x.2.2.2.1 x.2.2.2.2.1 x.2.2.2.2.2) ((some ([] : List Int)), -1, 0, (T_ref17_Code.mk ([] : List T_ref02_Instr) ([] : List Int) ([] : List T_api_Fixup) ([] : List Int) ([] : List Int) 0 0 0), ([] : List Int), H3)) (sum2 (tup2 fun b62 H63 =>
  some (H63, r1, b62, true)) (tup2 fun b64 H65 =>
  some (H65, r1, b64, false))))
theorem ok_law17_played (H : Heap) {p0 : (List T_law17_Op)} {ra : Ptr} {rb : T_ref17_Code} {rc : Bool} {Hr : Heap} (hF : law17_played H p0 = some (Hr, ra, rb, rc)) : evS X 5 [.one .ro (.sl 10 (List.map e_law17_Op p0))] H = some (.tup [.one .top (Ptr.av ra), .agg (m1_ref17_Code rb), .one .top (.bool rc)], Hr) := by
 let E3 : EN := (0, .one .ro (.sl 10 (List.map e_law17_Op p0)))
 let E4 : EN := (3, vl 3 0)
 let B5 : EB := (3, [((.own 1), .sl 5 (List.map e_ref02_Instr ([] : List T_ref02_Instr))), ((.own 1), .sl 1 (List.map (eI .i64) ([] : List Int))), ((.own 1), .sl 4 (List.map e_api_Fixup ([] : List T_api_Fixup))), ((.own 1), .sl 1 (List.map (eI .i64) ([] : List Int))), ((.own 1), .sl 1 (List.map (eI .i64) ([] : List Int))), (.top, .int .i64 0), (.top, .int .i64 0), (.top, .int .i64 0)])
 let B7 : EB := (6, [((.own 0), .sl 5 (List.map e_ref02_Instr ([] : List T_ref02_Instr))), ((.own 0), .sl 1 (List.map (eI .i64) ([] : List Int))), ((.own 0), .sl 4 (List.map e_api_Fixup ([] : List T_api_Fixup))), ((.own 0), .sl 1 (List.map (eI .i64) ([] : List Int))), ((.own 0), .sl 1 (List.map (eI .i64) ([] : List Int))), (.top, .int .i64 0), (.top, .int .i64 0), (.top, .int .i64 0)])
 let E8 : EN := (6, vl 6 0)
 let E9 : EN := (2, .one .top .nilp)
 let B10 : EB := (3, [((.own 0), .sl 5 (List.map e_ref02_Instr ([] : List T_ref02_Instr))), ((.own 0), .sl 1 (List.map (eI .i64) ([] : List Int))), ((.own 0), .sl 4 (List.map e_api_Fixup ([] : List T_api_Fixup))), ((.own 0), .sl 1 (List.map (eI .i64) ([] : List Int))), ((.own 0), .sl 1 (List.map (eI .i64) ([] : List Int))), (.top, .int .i64 0), (.top, .int .i64 0), (.top, .int .i64 0)])
 let E11 : EN := (15, .agg [((.own 0), .sl 5 (List.map e_ref02_Instr ([] : List T_ref02_Instr))), ((.own 0), .sl 1 (List.map (eI .i64) ([] : List Int))), ((.own 0), .sl 4 (List.map e_api_Fixup ([] : List T_api_Fixup))), ((.own 0), .sl 1 (List.map (eI .i64) ([] : List Int))), ((.own 0), .sl 1 (List.map (eI .i64) ([] : List Int))), (.top, .int .i64 0), (.top, .int .i64 0), (.top, .int .i64 0)])
 let E12 : EN := (7, mayT (eI .i64) 1 1 (some ([] : List Int)))
 let E13 : EN := (8, .one (.own 0) (.sl 1 (List.map (eI .i64) ([] : List Int))))
 let E15 : EN := (17, .one .ro (.sl 10 (List.map e_law17_Op p0)))
 let E18 : EN := (26, .one .ro (.sl 10 (List.map e_law17_Op p0)))
 let E30 : EN := (68, vl 6 0)
 let E34 : EN := (75, vl 6 5)
 let E38 : EN := (82, vl 6 7)
 let E47 : EN := (7, mayT (eI .i64) 1 1 none)
 let L69 : List EN := [(82, vN), (83, vN)]
 let L80 : List EN := [(81, vN)] ++ L69 ++ [(84, vN)]
 refine yf Try.func5 false ⟨[E3], [], H⟩ ?_
 unfold law17_played at hF
 refine ysg ⟨[E3, E4], [B5], H⟩ ?_
 refine w_seq ?_
 obtain ⟨H3, r1, c2, hF⟩ := bind2_inv hF
 let E6 : Ptr → EN := fun z0 => (5, vp z0)
 let E42 : Ptr → EN := fun z0 => (86, vp z0)
 let E44 : Ptr → EN := fun z0 => (2, vp z0)
 let E45 : Ptr → EN := fun z0 => (61, vp z0)
 let E52 : Ptr → EN := fun z0 => (88, vp z0)
 let L54 : Ptr → List EN := fun z0 => [E4, (E6 z0), E8]
 let L55 : Ptr → List EN := fun z0 => [E3] ++ (L54 z0)
 let L79 : Ptr → List EN := fun z0 => [(E44 z0), E4, (4, vF)]
 refine w_regO ⟨[E3, E4, (E6 r1)], [B5], H3⟩ ?_ ?_
 refine o_one ⟨[E3, E4, (12, vp r1)], [B5], H3⟩ (yc (some 12) false false (⟨[E3, E4], [B5], H⟩ : St) (ok_emit_New H c2) (hr := (by generalize r1 = qp0; cases qp0 <;> kernel_rfl)) (hs := (by generalize r1 = qp0; cases qp0 <;> kernel_rfl))) ?_
 refine yr 1 ⟨[E3, E4, (E6 r1), (12, vp r1)], [B5], H3⟩ ?_ (h := (by generalize r1 = qp0; cases qp0 <;> kernel_rfl))
 exact ye
 refine ysg ⟨(L55 r1), [B5, B7], H3⟩ ?_ (h := (by generalize r1 = qp0; cases qp0 <;> kernel_rfl))
 refine w_seq ?_
 refine yso ⟨(L55 r1) ++ [(14, vb r1.isNil)], [B5, B7], H3⟩ ?_ ?_
 refine yr 1 ⟨(L55 r1) ++ [(13, vp r1)], [B5, B7], H3⟩ ?_ (h := (by generalize r1 = qp0; cases qp0 <;> kernel_rfl))
 refine o_one ⟨(L55 r1) ++ [(13, vp r1), (14, vb r1.isNil)], [B5, B7], H3⟩ (st_bin (⟨(L55 r1) ++ [(13, vp r1)], [B5, B7], H3⟩ : St) (nil_eql (P := X.P) (ty := 24) (x := (.tmp 13)) (y := (.const (.pointer none))) (m := .top) (m' := .top) r1 (by generalize r1 = qp0; cases qp0 <;> kernel_rfl) (by generalize r1 = qp0; cases qp0 <;> kernel_rfl)) rfl (some 14) (by generalize r1 = qp0; cases qp0 <;> kernel_rfl) (by generalize r1 = qp0; cases qp0 <;> kernel_rfl)) ?_
 exact ye
 rcases if_inv hF with ⟨h4, hF⟩ | ⟨h4, hF⟩
 refine yT h4 ⟨[E4, E8], [B5, B7], H3⟩ ?_
 refine w_seq ?_
 refine w_regD (.take 0 (.take 1 (.last 2 (.take 3 .done)))) (by kernel_rfl) (⟨[E9, E4, (4, vF)], [B10], H3⟩ : St) ?_ ?_
 refine ydk 2 ⟨[E9, E4, E8, E11], [B5, B7], H3⟩ ?_
 refine ydl ⟨[E9, E4, E8, E11], [B10, B7], H3⟩ ?_
 refine ydt ⟨[E9, E4, (4, vF), E8, E11], [B10, B7], H3⟩ ?_
 exact yde
 refine w_ret ?_
 obtain ⟨e0, e1, e2, e3⟩ := some4_inv hF
 subst e0
 subst e1
 subst e2
 subst e3
 exact yi (.tup [.one .top .nilp, .agg [((.own 0), .sl 5 (List.map e_ref02_Instr ([] : List T_ref02_Instr))), ((.own 0), .sl 1 (List.map (eI .i64) ([] : List Int))), ((.own 0), .sl 4 (List.map e_api_Fixup ([] : List T_api_Fixup))), ((.own 0), .sl 1 (List.map (eI .i64) ([] : List Int))), ((.own 0), .sl 1 (List.map (eI .i64) ([] : List Int))), (.top, .int .i64 0), (.top, .int .i64 0), (.top, .int .i64 0)], vF])
 refine yF h4 ⟨(L55 r1), [B5, B7], H3⟩ ?_
 refine w_skip ?_
 refine ysg ⟨(L55 r1) ++ [E12], [B5, B7], H3⟩ ?_ (h := (by generalize r1 = qp0; cases qp0 <;> kernel_rfl))
 refine ysg ⟨(L55 r1) ++ [E12, E13], [B5, B7], H3⟩ ?_ (h := (by generalize r1 = qp0; cases qp0 <;> kernel_rfl))
 refine ysg ⟨(L55 r1) ++ [E12, E13, (9, vi (-1))], [B5, B7], H3⟩ ?_ (h := (by generalize r1 = qp0; cases qp0 <;> kernel_rfl))
 refine w_seq ?_
 refine ysg ⟨(L55 r1) ++ [E12, E13, (9, vi (-1)), (10, vi 0)], [B5, B7], H3⟩ ?_ (h := (by generalize r1 = qp0; cases qp0 <;> kernel_rfl))
 refine w_block ?_
 obtain ⟨r60, hL61, hF⟩ := bind1_inv hF
 refine w_loop (fun (x : ((Option (List Int)) × Int × Int × T_ref17_Code × (List Int) × Heap)) => (⟨(L55 r1) ++ [(7, mayT (eI .i64) 1 1 x.1), (8, .one (.own 0) (.sl 1 (List.map (eI .i64) x.2.2.2.2.1))), (9, vi x.2.1), (10, vi x.2.2.1)], [B5, (6, (m1_ref17_Code x.2.2.2.1))], x.2.2.2.2.2⟩ : St)) (Sum.elim (fun (y : (T_ref17_Code × Heap)) => ((.exit 0, (⟨(L54 r1), [B5, (6, (m1_ref17_Code y.1))], y.2⟩ : St)) : Ex × St)) (fun (y : (T_ref17_Code × Heap)) => ((.ret, (⟨(L79 r1), [(3, (m1_ref17_Code y.1))], y.2⟩ : St)) : Ex × St))) hL61 (by kernel_rfl) ?_ ?_
 rintro ⟨u5, a6, a7, a8, a9, H10⟩ o hF
 replace hF : law17_played_L1 p0 r1 u5 a6 a7 a8 a9 H10 = some o := hF
 let E1 : Option (List Int) → EN := fun z0 => (7, mayT (eI .i64) 1 1 z0)
 let E2 : EN := (8, .one (.own 0) (.sl 1 (List.map (eI .i64) a9)))
 let B14 : EB := (6, (m1_ref17_Code a8))
 let E16 : EN := (10, vi a7)
 let E19 : EN := (27, vi a7)
 let B49 : EB := (6, [((.own 0), .sl 5 (List.map e_ref02_Instr a8.L_)), ((.own 0), .sl 1 (List.map (eI .i64) a8.G_)), ((.own 0), .sl 4 (List.map e_api_Fixup a8.Fixups_)), ((.own 0), .sl 1 (List.map (eI .i64) a8.Pads_)), ((.own 0), .sl 1 (List.map (eI .i64) ([] : List Int))), (.top, .int .i64 a8.Depth_), (.top, .int .i64 a8.Most_), (.top, .int .i64 a8.Err_)])
 let L59 : List EN := [E16, (11, vl 11 0)]
 let L63 : Ptr → Option (List Int) → List EN := fun z0 z1 => (L55 z0) ++ [(E1 z1), E2, (9, vi a6)] ++ L59
 let L64 : Ptr → Option (List Int) → List EN := fun z0 z1 => (L55 z0) ++ [(E1 z1), E2, (9, vi a6), E16]
 let L73 : Ptr → Option (List Int) → List EN := fun z0 z1 => (L64 z0 z1) ++ [(16, vi a7), E15, (18, vi (p0.length : Int))]
 let L74 : List EN := [(42, vl 6 4), (43, .one (.own 0) (.sl 1 (List.map (eI .i64) a8.Active_)))]
 let L75 : Ptr → List EN := fun z0 => (L55 z0) ++ L59 ++ [(40, vp z0)]
 unfold law17_played_L1 at hF
 refine w_seq ?_
 refine yso ⟨(L64 r1 u5) ++ [(23, vb ((decide (a7 < (p0.length : Int))) && (decide (a7 < 80))))], [B5, B14], H10⟩ ?_ ?_
 refine yr 2 ⟨(L64 r1 u5) ++ [(16, vi a7), E15], [B5, B14], H10⟩ ?_ (h := (by generalize r1 = qp0; generalize u5 = qp1; cases qp0 <;> cases qp1 <;> kernel_rfl))
 refine o_one ⟨(L73 r1 u5), [B5, B14], H10⟩ (st_len (⟨(L64 r1 u5) ++ [(16, vi a7), E15], [B5, B14], H10⟩ : St) p0 e_law17_Op (some 18) (by generalize r1 = qp0; generalize u5 = qp1; cases qp0 <;> cases qp1 <;> kernel_rfl) (by generalize r1 = qp0; generalize u5 = qp1; cases qp0 <;> cases qp1 <;> kernel_rfl)) ?_
 refine yr 2 ⟨(L73 r1 u5) ++ [(19, vb (decide (a7 < (p0.length : Int)))), (20, vb (decide (a7 < (p0.length : Int))))], [B5, B14], H10⟩ ?_ (h := (by generalize r1 = qp0; generalize u5 = qp1; cases qp0 <;> cases qp1 <;> kernel_rfl))
 rcases bool_cases (decide (a7 < (p0.length : Int))) with h11 | h11
 refine o_eq (congrArg (fun q => (⟨(L73 r1 u5) ++ [(19, vb q), (20, vb q)], [B5, B14], H10⟩ : St)) h11) ?_
 refine yr 3 ⟨(L73 r1 u5) ++ [(19, vT), (20, vT), (21, vi a7), (22, vb (decide (a7 < 80))), (23, vb (decide (a7 < 80)))], [B5, B14], H10⟩ ?_ (h := (by generalize r1 = qp0; generalize u5 = qp1; cases qp0 <;> cases qp1 <;> kernel_rfl))
 refine o_eq2 (congrArg (fun q0 => (⟨(L64 r1 u5) ++ [(23, vb q0)], [B5, B14], H10⟩ : St)) (show (decide (a7 < 80)) = ((decide (a7 < (p0.length : Int))) && (decide (a7 < 80))) by simp [h11])) ?_
 exact ye
 refine o_eq (congrArg (fun q => (⟨(L73 r1 u5) ++ [(19, vb q), (20, vb q)], [B5, B14], H10⟩ : St)) h11) ?_
 refine yr 3 ⟨(L73 r1 u5) ++ [(19, vF), (20, vF), (21, vN), (22, vN), (23, vF)], [B5, B14], H10⟩ ?_ (h := (by generalize r1 = qp0; generalize u5 = qp1; cases qp0 <;> cases qp1 <;> kernel_rfl))
 refine o_eq2 (congrArg (fun q0 => (⟨(L64 r1 u5) ++ [(23, vb q0)], [B5, B14], H10⟩ : St)) (show false = ((decide (a7 < (p0.length : Int))) && (decide (a7 < 80))) by simp [h11])) ?_
 exact ye
 rcases if_inv hF with ⟨h12, hF⟩ | ⟨h12, hF⟩
 refine yT h12 ⟨(L64 r1 u5), [B5, B14], H10⟩ ?_
 refine w_skip ?_
 refine w_seq ?_
 refine w_join (α := ((Option (List Int)) × (List Int) × Int × T_ref17_Code × Heap)) (fun x => (⟨(L55 r1) ++ [(7, mayT (eI .i64) 1 1 x.1), (8, .one (.own 0) (.sl 1 (List.map (eI .i64) x.2.1))), (9, vi x.2.2.1), E16], [B5, (6, (m1_ref17_Code x.2.2.2.1))], x.2.2.2.2⟩ : St)) (fun x => law17_played_j2 a7 x.1 x.2.1 x.2.2.1 x.2.2.2.1 x.2.2.2.2 = some o) ?_ ?_
 rintro ⟨u13, j14, j15, j16, H17⟩ hF
 replace hF : law17_played_j2 a7 u13 j14 j15 j16 H17 = some o := hF
 unfold law17_played_j2 at hF
 refine w_reg ⟨(L55 r1) ++ [(7, mayT (eI .i64) 1 1 u13), (8, .one (.own 0) (.sl 1 (List.map (eI .i64) j14))), (9, vi j15), (10, vi (IntKind.wrap .i64 (a7 + 1)))], [B5, (6, (m1_ref17_Code j16))], H17⟩ (by generalize r1 = qp0; generalize u13 = qp1; cases qp0 <;> cases qp1 <;> kernel_rfl) ?_
 cases hF
 exact ⟨_, rfl, (by kernel_rfl)⟩
 refine w_block ?_
 refine w_seq ?_
 obtain ⟨x18, h19, hF⟩ := bind1_inv hF
 let B17 : EB := (11, (m0_law17_Op x18))
 let E20 : EN := (28, .one .top (.rd .ro .ro [.int .i64 x18.Kind_, .int .i64 x18.I_.Op_, .int .i64 x18.I_.A_, .int .i64 x18.I_.B_, .int .i64 x18.I_.C_, .int .i64 x18.I_.Imm_, .int .i64 x18.N_, .int .i64 x18.A_, .int .i64 x18.B_, .int .i64 x18.C_] 0))
 let E21 : EN := (30, .agg (m0_law17_Op x18))
 let E24 : EN := (49, .agg (m0_law17_Op x18))
 let E25 : EN := (51, .agg (m0_law17_Op x18))
 let L76 : Ptr → Option (List Int) → List EN := fun z0 z1 => (L63 z0 z1) ++ [(33, vl 11 0), (34, vi x18.Kind_)]
 refine w_regO ⟨(L63 r1 u5), [B5, B14, B17], H10⟩ ?_ ?_
 refine yr 2 ⟨(L64 r1 u5) ++ [E18, E19], [B5, B14], H10⟩ ?_ (h := (by generalize r1 = qp0; generalize u5 = qp1; cases qp0 <;> cases qp1 <;> kernel_rfl))
 refine o_one ⟨(L64 r1 u5) ++ [E18, E19, E20], [B5, B14], H10⟩ (st_ix (X := X) (⟨(L64 r1 u5) ++ [E18, E19], [B5, B14], H10⟩ : St) 22 52 10 h19 e_law17_Op .ro (some 28) (by generalize r1 = qp0; generalize u5 = qp1; cases qp0 <;> cases qp1 <;> kernel_rfl) (by generalize r1 = qp0; generalize u5 = qp1; cases qp0 <;> cases qp1 <;> kernel_rfl) (by generalize r1 = qp0; generalize u5 = qp1; cases qp0 <;> cases qp1 <;> kernel_rfl) (by generalize r1 = qp0; generalize u5 = qp1; cases qp0 <;> cases qp1 <;> kernel_rfl)) ?_
 refine yr 3 ⟨(L63 r1 u5) ++ [E18, E19, E20, (29, .agg (m0_law17_Op x18))], [B5, B14, B17], H10⟩ ?_ (h := (by generalize r1 = qp0; generalize u5 = qp1; cases qp0 <;> cases qp1 <;> kernel_rfl))
 exact ye
 refine w_seq ?_
 refine w_seq ?_
 obtain ⟨r20, c21, hF⟩ := bind1_inv hF
 refine w_regO ⟨(L63 r1 u5) ++ [(32, vb (!r20))], [B5, B14, B17], H10⟩ ?_ ?_
 refine yr 1 ⟨(L63 r1 u5) ++ [E21], [B5, B14, B17], H10⟩ ?_ (h := (by generalize r1 = qp0; generalize u5 = qp1; cases qp0 <;> cases qp1 <;> kernel_rfl))
 refine o_one ⟨(L63 r1 u5) ++ [E21, (31, vb r20)], [B5, B14, B17], H10⟩ (yc (some 31) true false (⟨(L63 r1 u5) ++ [E21], [B5, B14, B17], H10⟩ : St) (ok_law17_small H10 c21) (hr := (by generalize r1 = qp0; generalize u5 = qp1; cases qp0 <;> cases qp1 <;> kernel_rfl)) (hs := (by generalize r1 = qp0; generalize u5 = qp1; cases qp0 <;> cases qp1 <;> kernel_rfl))) ?_
 refine yr 1 ⟨(L63 r1 u5) ++ [E21, (31, vb r20), (32, vb (!r20))], [B5, B14, B17], H10⟩ ?_ (h := (by generalize r1 = qp0; generalize u5 = qp1; cases qp0 <;> cases qp1 <;> kernel_rfl))
 exact ye
 rcases if_inv hF with ⟨h22, hF⟩ | ⟨h22, hF⟩
 refine yT h22 ⟨(L64 r1 u5), [B5, B14], H10⟩ ?_
 refine w_exit ?_
 refine e_here ?_
 exact ⟨(u5, a9, a6, a8, H10), hF, (by kernel_rfl)⟩
 refine yF h22 ⟨(L63 r1 u5), [B5, B14, B17], H10⟩ ?_
 refine w_skip ?_
 refine w_seq ?_
 refine yso ⟨(L63 r1 u5) ++ [(39, vb ((x18.Kind_ == 14) && (decide (a6 < 0))))], [B5, B14, B17], H10⟩ ?_ ?_
 refine yr 4 ⟨(L76 r1 u5) ++ [(35, vb (x18.Kind_ == 14)), (36, vb (x18.Kind_ == 14))], [B5, B14, B17], H10⟩ ?_ (h := (by generalize r1 = qp0; generalize u5 = qp1; cases qp0 <;> cases qp1 <;> kernel_rfl))
 rcases bool_cases (x18.Kind_ == 14) with h23 | h23
 refine o_eq (congrArg (fun q => (⟨(L76 r1 u5) ++ [(35, vb q), (36, vb q)], [B5, B14, B17], H10⟩ : St)) h23) ?_
 refine yr 3 ⟨(L76 r1 u5) ++ [(35, vT), (36, vT), (37, vi a6), (38, vb (decide (a6 < 0))), (39, vb (decide (a6 < 0)))], [B5, B14, B17], H10⟩ ?_ (h := (by generalize r1 = qp0; generalize u5 = qp1; cases qp0 <;> cases qp1 <;> kernel_rfl))
 refine o_eq2 (congrArg (fun q0 => (⟨(L63 r1 u5) ++ [(39, vb q0)], [B5, B14, B17], H10⟩ : St)) (show (decide (a6 < 0)) = ((x18.Kind_ == 14) && (decide (a6 < 0))) by simp [h23])) ?_
 exact ye
 refine o_eq (congrArg (fun q => (⟨(L76 r1 u5) ++ [(35, vb q), (36, vb q)], [B5, B14, B17], H10⟩ : St)) h23) ?_
 refine yr 3 ⟨(L76 r1 u5) ++ [(35, vF), (36, vF), (37, vN), (38, vN), (39, vF)], [B5, B14, B17], H10⟩ ?_ (h := (by generalize r1 = qp0; generalize u5 = qp1; cases qp0 <;> cases qp1 <;> kernel_rfl))
 refine o_eq2 (congrArg (fun q0 => (⟨(L63 r1 u5) ++ [(39, vb q0)], [B5, B14, B17], H10⟩ : St)) (show false = ((x18.Kind_ == 14) && (decide (a6 < 0))) by simp [h23])) ?_
 exact ye
 refine w_join (α := ((Option (List Int)) × (List Int) × Int × T_ref17_Code × Heap)) (fun x => (⟨(L55 r1) ++ [(7, mayT (eI .i64) 1 1 x.1), (8, .one (.own 0) (.sl 1 (List.map (eI .i64) x.2.1))), (9, vi x.2.2.1)] ++ L59, [B5, (6, (m1_ref17_Code x.2.2.2.1)), B17], x.2.2.2.2⟩ : St)) (fun x => law17_played_j3 r1 x18 a7 x.1 x.2.1 x.2.2.1 x.2.2.2.1 x.2.2.2.2 = some o) ?_ ?_
 rintro ⟨u24, j25, j26, j27, H28⟩ hF
 replace hF : law17_played_j3 r1 x18 a7 u24 j25 j26 j27 H28 = some o := hF
 let B23 : EB := (6, (m1_ref17_Code j27))
 let E26 : EN := (48, .agg (m1_ref17_Code j27))
 let E28 : EN := (8, .one (.own 0) (.sl 1 (List.map (eI .i64) j25)))
 let L61 : Ptr → Option (List Int) → List EN := fun z0 z1 => (L55 z0) ++ [(7, mayT (eI .i64) 1 1 z1), E28]
 let L66 : Ptr → Option (List Int) → List EN := fun z0 z1 => (L61 z0 z1) ++ [(9, vi j26), E16]
 let L67 : Ptr → Option (List Int) → List EN := fun z0 z1 => (L61 z0 z1) ++ [(9, vi j26)] ++ L59 ++ [(46, vp z0), (47, vp z0)]
 let L77 : Ptr → Option (List Int) → List EN := fun z0 z1 => (L66 z0 z1) ++ [(53, vi j26)]
 let L78 : Ptr → List EN := fun z0 => (L55 z0) ++ [E47, E28, E16]
 unfold law17_played_j3 at hF
 refine w_seq ?_
 obtain ⟨H31, r29, c30, hF⟩ := bind2_inv hF
 let L81 : Ptr → Option (List Int) → List EN := fun z0 z1 => (L67 z0 z1) ++ [E26, E24, (50, .agg (m1_ref17_Code r29)), E25]
 obtain ⟨H34, r32, c33, hF⟩ := bind2_inv hF
 let B22 : EB := (6, (m1_ref17_Code r32))
 let E27 : EN := (52, .agg (m1_ref17_Code r32))
 let B46 : EB := (6, [((.own 0), .sl 5 (List.map e_ref02_Instr r32.L_)), ((.own 0), .sl 1 (List.map (eI .i64) r32.G_)), ((.own 0), .sl 4 (List.map e_api_Fixup r32.Fixups_)), ((.own 0), .sl 1 (List.map (eI .i64) r32.Pads_)), ((.own 0), .sl 1 (List.map (eI .i64) j25)), (.top, .int .i64 r32.Depth_), (.top, .int .i64 r32.Most_), (.top, .int .i64 r32.Err_)])
 refine w_regD (.take 0 (.take 1 (.take 3 (.take 5 (.last 2 (.last 4 (.last 6 (.last 7 .done)))))))) (by kernel_rfl) (⟨(L66 r1 u24), [B5, B22], H34⟩ : St) ?_ ?_
 refine d_take ⟨(L61 r1 u24) ++ [(9, vi j26)] ++ L59 ++ [(46, vp r1)], [B5, B23, B17], H28⟩ (by generalize r1 = qp0; generalize u24 = qp1; cases qp0 <;> cases qp1 <;> kernel_rfl) ?_
 refine d_take ⟨(L67 r1 u24), [B5, B23, B17], H28⟩ (by generalize r1 = qp0; generalize u24 = qp1; cases qp0 <;> cases qp1 <;> kernel_rfl) ?_
 refine d_take ⟨(L67 r1 u24) ++ [E24], [B5, B23, B17], H28⟩ (by generalize r1 = qp0; generalize u24 = qp1; cases qp0 <;> cases qp1 <;> kernel_rfl) ?_
 refine d_take ⟨(L67 r1 u24) ++ [E24, E25], [B5, B23, B17], H28⟩ (by generalize r1 = qp0; generalize u24 = qp1; cases qp0 <;> cases qp1 <;> kernel_rfl) ?_
 refine d_last ⟨(L67 r1 u24) ++ [E26, E24, E25], [B5, B23, B17], H28⟩ (by generalize r1 = qp0; generalize u24 = qp1; cases qp0 <;> cases qp1 <;> kernel_rfl) ?_
 refine d_last ⟨(L81 r1 u24), [B5, B23, B17], H31⟩ (yc (some 50) false false (⟨(L67 r1 u24) ++ [E26, E24, E25], [B5, B23, B17], H28⟩ : St) (ok_law17_writes_2 H28 c30) (hr := (by generalize r1 = qp0; generalize u24 = qp1; cases qp0 <;> cases qp1 <;> kernel_rfl)) (hs := (by generalize r1 = qp0; generalize u24 = qp1; cases qp0 <;> cases qp1 <;> kernel_rfl))) ?_
 refine d_last ⟨(L81 r1 u24) ++ [E27], [B5, B23, B17], H34⟩ (yc (some 52) false false (⟨(L81 r1 u24), [B5, B23, B17], H31⟩ : St) (ok_law17_others H31 c33) (hr := (by generalize r1 = qp0; generalize u24 = qp1; cases qp0 <;> cases qp1 <;> kernel_rfl)) (hs := (by generalize r1 = qp0; generalize u24 = qp1; cases qp0 <;> cases qp1 <;> kernel_rfl))) ?_
 refine d_last ⟨(L81 r1 u24) ++ [E27], [B5, B22, B17], H34⟩ (by generalize r1 = qp0; generalize u24 = qp1; cases qp0 <;> cases qp1 <;> kernel_rfl) ?_
 exact yde
 refine w_seq ?_
 refine yso ⟨(L66 r1 u24) ++ [(60, vb ((decide (j26 ≥ 0)) && (decide (a7 ≥ (IntKind.wrap .i64 (j26 + 2))))))], [B5, B22], H34⟩ ?_ ?_
 refine yr 3 ⟨(L77 r1 u24) ++ [(54, vb (decide (j26 ≥ 0))), (55, vb (decide (j26 ≥ 0)))], [B5, B22], H34⟩ ?_ (h := (by generalize r1 = qp0; generalize u24 = qp1; cases qp0 <;> cases qp1 <;> kernel_rfl))
 rcases bool_cases (decide (j26 ≥ 0)) with h35 | h35
 refine o_eq (congrArg (fun q => (⟨(L77 r1 u24) ++ [(54, vb q), (55, vb q)], [B5, B22], H34⟩ : St)) h35) ?_
 refine yr 5 ⟨(L77 r1 u24) ++ [(54, vT), (55, vT), (56, vi a7), (57, vi j26), (58, vi (IntKind.wrap .i64 (j26 + 2))), (59, vb (decide (a7 ≥ (IntKind.wrap .i64 (j26 + 2))))), (60, vb (decide (a7 ≥ (IntKind.wrap .i64 (j26 + 2)))))], [B5, B22], H34⟩ ?_ (h := (by generalize r1 = qp0; generalize u24 = qp1; cases qp0 <;> cases qp1 <;> kernel_rfl))
 refine o_eq2 (congrArg (fun q0 => (⟨(L66 r1 u24) ++ [(60, vb q0)], [B5, B22], H34⟩ : St)) (show (decide (a7 ≥ (IntKind.wrap .i64 (j26 + 2)))) = ((decide (j26 ≥ 0)) && (decide (a7 ≥ (IntKind.wrap .i64 (j26 + 2))))) by simp [h35])) ?_
 exact ye
 refine o_eq (congrArg (fun q => (⟨(L77 r1 u24) ++ [(54, vb q), (55, vb q)], [B5, B22], H34⟩ : St)) h35) ?_
 refine yr 5 ⟨(L77 r1 u24) ++ [(54, vF), (55, vF), (56, vN), (57, vN), (58, vN), (59, vN), (60, vF)], [B5, B22], H34⟩ ?_ (h := (by generalize r1 = qp0; generalize u24 = qp1; cases qp0 <;> cases qp1 <;> kernel_rfl))
 refine o_eq2 (congrArg (fun q0 => (⟨(L66 r1 u24) ++ [(60, vb q0)], [B5, B22], H34⟩ : St)) (show false = ((decide (j26 ≥ 0)) && (decide (a7 ≥ (IntKind.wrap .i64 (j26 + 2))))) by simp [h35])) ?_
 exact ye
 refine w_join (α := ((Option (List Int)) × Int × T_ref17_Code × Heap)) (fun x => (⟨(L55 r1) ++ [(7, mayT (eI .i64) 1 1 x.1), E28, (9, vi x.2.1), E16], [B5, (6, (m1_ref17_Code x.2.2.1))], x.2.2.2⟩ : St)) (fun x => law17_played_j4 r1 a7 j25 x.1 x.2.1 x.2.2.1 x.2.2.2 = some o) ?_ ?_
 rintro ⟨u36, j37, j38, H39⟩ hF
 replace hF : law17_played_j4 r1 a7 j25 u36 j37 j38 H39 = some o := hF
 let B29 : EB := (6, (m1_ref17_Code j38))
 let E31 : EN := (69, .one (.own 0) (.sl 5 (List.map e_ref02_Instr j38.L_)))
 let E32 : EN := (70, vi (j38.L_.length : Int))
 let E35 : EN := (76, vi j38.Depth_)
 let E39 : EN := (83, vi j38.Err_)
 let B41 : EB := (3, (m1_ref17_Code j38))
 let E43 : EN := (87, .agg (m1_ref17_Code j38))
 let L56 : Ptr → Option (List Int) → List EN := fun z0 z1 => (L55 z0) ++ [(7, mayT (eI .i64) 1 1 z1), E28, (9, vi j37), E16]
 let L57 : Ptr → Option (List Int) → List EN := fun z0 z1 => (L56 z0 z1) ++ [(66, vp z0)]
 unfold law17_played_j4 at hF
 refine w_seq ?_
 obtain ⟨r40, c41, hF⟩ := bind1_inv hF
 let E33 : EN := (71, vb (r40 != (j38.L_.length : Int)))
 let L58 : Ptr → Option (List Int) → List EN := fun z0 z1 => (L57 z0 z1) ++ [(67, vi r40), E30, E31, E32]
 let L60 : Ptr → Option (List Int) → List EN := fun z0 z1 => (L58 z0 z1) ++ [(71, vF), (72, vF), (73, vp z0)]
 let L65 : Ptr → Option (List Int) → List EN := fun z0 z1 => (L58 z0 z1) ++ [(71, vT), (72, vT), (73, vN)]
 let L68 : Ptr → Option (List Int) → List EN := fun z0 z1 => (L65 z0 z1) ++ [(74, vN), (75, vN), (76, vN), (77, vN)]
 let L72 : Ptr → Option (List Int) → List EN := fun z0 z1 => (L68 z0 z1) ++ [(78, vT), (79, vT), (80, vN)]
 obtain ⟨w48, hB49, hF⟩ := bind1_inv hF
 refine w_regD (.take 0 (.take 2 (.take 3 (.take 4 (.last 1 (.take 5 (.take 6 (.take 7 (.take 9 (.take 10 (.last 8 (.take 11 (.take 12 (.take 13 (.take 14 (.take 16 (.take 17 (.last 15 (.take 18 (.take 19 .done)))))))))))))))))))) (by kernel_rfl) (⟨(L56 r1 u36) ++ [(85, vb w48)], [B5, B29], H39⟩ : St) ?_ ?_
 refine d_take ⟨(L57 r1 u36), [B5, B29], H39⟩ (by generalize r1 = qp0; generalize u36 = qp1; cases qp0 <;> cases qp1 <;> kernel_rfl) ?_
 refine d_take ⟨(L57 r1 u36) ++ [E30], [B5, B29], H39⟩ (by generalize r1 = qp0; generalize u36 = qp1; cases qp0 <;> cases qp1 <;> kernel_rfl) ?_
 refine d_take ⟨(L57 r1 u36) ++ [E30, E31], [B5, B29], H39⟩ (by generalize r1 = qp0; generalize u36 = qp1; cases qp0 <;> cases qp1 <;> kernel_rfl) ?_
 refine d_take ⟨(L57 r1 u36) ++ [E30, E31, E32], [B5, B29], H39⟩ (st_len (⟨(L57 r1 u36) ++ [E30, E31], [B5, B29], H39⟩ : St) j38.L_ e_ref02_Instr (some 70) (by generalize r1 = qp0; generalize u36 = qp1; cases qp0 <;> cases qp1 <;> kernel_rfl) (by generalize r1 = qp0; generalize u36 = qp1; cases qp0 <;> cases qp1 <;> kernel_rfl)) ?_
 refine d_last ⟨(L58 r1 u36), [B5, B29], H39⟩ (yc (some 67) true false (⟨(L57 r1 u36) ++ [E30, E31, E32], [B5, B29], H39⟩ : St) (ok_emit_Code_Here H39 c41) (hr := (by generalize r1 = qp0; generalize u36 = qp1; cases qp0 <;> cases qp1 <;> kernel_rfl)) (hs := (by generalize r1 = qp0; generalize u36 = qp1; cases qp0 <;> cases qp1 <;> kernel_rfl))) ?_
 refine d_take ⟨(L58 r1 u36) ++ [E33], [B5, B29], H39⟩ (by generalize r1 = qp0; generalize u36 = qp1; cases qp0 <;> cases qp1 <;> kernel_rfl) ?_
 refine d_take ⟨(L58 r1 u36) ++ [E33, (72, vb (r40 != (j38.L_.length : Int)))], [B5, B29], H39⟩ (by generalize r1 = qp0; generalize u36 = qp1; cases qp0 <;> cases qp1 <;> kernel_rfl) ?_
 rcases if_inv hB49 with ⟨h42, hB49⟩ | ⟨h42, hB49⟩
 refine d_eq (congrArg (fun q => (⟨(L58 r1 u36) ++ [(71, vb q), (72, vb q)], [B5, B29], H39⟩ : St)) h42) ?_
 refine d_take ⟨(L65 r1 u36), [B5, B29], H39⟩ (by generalize r1 = qp0; generalize u36 = qp1; cases qp0 <;> cases qp1 <;> kernel_rfl) ?_
 refine d_take ⟨(L65 r1 u36) ++ [(75, vN)], [B5, B29], H39⟩ (by generalize r1 = qp0; generalize u36 = qp1; cases qp0 <;> cases qp1 <;> kernel_rfl) ?_
 refine d_take ⟨(L65 r1 u36) ++ [(75, vN), (76, vN)], [B5, B29], H39⟩ (by generalize r1 = qp0; generalize u36 = qp1; cases qp0 <;> cases qp1 <;> kernel_rfl) ?_
 refine d_last ⟨(L65 r1 u36) ++ [(74, vN), (75, vN), (76, vN)], [B5, B29], H39⟩ (by generalize r1 = qp0; generalize u36 = qp1; cases qp0 <;> cases qp1 <;> kernel_rfl) ?_
 refine d_take ⟨(L68 r1 u36), [B5, B29], H39⟩ (by generalize r1 = qp0; generalize u36 = qp1; cases qp0 <;> cases qp1 <;> kernel_rfl) ?_
 refine d_take ⟨(L68 r1 u36) ++ [(78, vT)], [B5, B29], H39⟩ (by generalize r1 = qp0; generalize u36 = qp1; cases qp0 <;> cases qp1 <;> kernel_rfl) ?_
 refine d_take ⟨(L68 r1 u36) ++ [(78, vT), (79, vT)], [B5, B29], H39⟩ (by generalize r1 = qp0; generalize u36 = qp1; cases qp0 <;> cases qp1 <;> kernel_rfl) ?_
 refine d_take ⟨(L72 r1 u36), [B5, B29], H39⟩ (by generalize r1 = qp0; generalize u36 = qp1; cases qp0 <;> cases qp1 <;> kernel_rfl) ?_
 refine d_take ⟨(L72 r1 u36) ++ [(82, vN)], [B5, B29], H39⟩ (by generalize r1 = qp0; generalize u36 = qp1; cases qp0 <;> cases qp1 <;> kernel_rfl) ?_
 refine d_take ⟨(L72 r1 u36) ++ L69, [B5, B29], H39⟩ (by generalize r1 = qp0; generalize u36 = qp1; cases qp0 <;> cases qp1 <;> kernel_rfl) ?_
 refine d_last ⟨(L72 r1 u36) ++ [(81, vN)] ++ L69, [B5, B29], H39⟩ (by generalize r1 = qp0; generalize u36 = qp1; cases qp0 <;> cases qp1 <;> kernel_rfl) ?_
 refine d_take ⟨(L72 r1 u36) ++ L80, [B5, B29], H39⟩ (by generalize r1 = qp0; generalize u36 = qp1; cases qp0 <;> cases qp1 <;> kernel_rfl) ?_
 refine d_take ⟨(L72 r1 u36) ++ L80 ++ [(85, vT)], [B5, B29], H39⟩ (by generalize r1 = qp0; generalize u36 = qp1; cases qp0 <;> cases qp1 <;> kernel_rfl) ?_
 cases hB49
 exact yde
 refine d_eq (congrArg (fun q => (⟨(L58 r1 u36) ++ [(71, vb q), (72, vb q)], [B5, B29], H39⟩ : St)) h42) ?_
 refine d_take ⟨(L60 r1 u36), [B5, B29], H39⟩ (by generalize r1 = qp0; generalize u36 = qp1; cases qp0 <;> cases qp1 <;> kernel_rfl) ?_
 refine d_take ⟨(L60 r1 u36) ++ [E34], [B5, B29], H39⟩ (by generalize r1 = qp0; generalize u36 = qp1; cases qp0 <;> cases qp1 <;> kernel_rfl) ?_
 refine d_take ⟨(L60 r1 u36) ++ [E34, E35], [B5, B29], H39⟩ (by generalize r1 = qp0; generalize u36 = qp1; cases qp0 <;> cases qp1 <;> kernel_rfl) ?_
 obtain ⟨r43, c44, hB49⟩ := bind1_inv hB49
 let E36 : EN := (77, vb (r43 != j38.Depth_))
 let E37 : EN := (78, vb (r43 != j38.Depth_))
 let L62 : Ptr → Option (List Int) → List EN := fun z0 z1 => (L60 z0 z1) ++ [(74, vi r43), E34, E35]
 let L70 : Ptr → Option (List Int) → List EN := fun z0 z1 => (L62 z0 z1) ++ [(77, vF), (78, vF), (79, vF), (80, vp z0)]
 let L71 : Ptr → Option (List Int) → List EN := fun z0 z1 => (L62 z0 z1) ++ [(77, vT), (78, vT), (79, vT), (80, vN)]
 refine d_last ⟨(L62 r1 u36), [B5, B29], H39⟩ (yc (some 74) true false (⟨(L60 r1 u36) ++ [E34, E35], [B5, B29], H39⟩ : St) (ok_emit_Code_Depth H39 c44) (hr := (by generalize r1 = qp0; generalize u36 = qp1; cases qp0 <;> cases qp1 <;> kernel_rfl)) (hs := (by generalize r1 = qp0; generalize u36 = qp1; cases qp0 <;> cases qp1 <;> kernel_rfl))) ?_
 refine d_take ⟨(L62 r1 u36) ++ [E36], [B5, B29], H39⟩ (by generalize r1 = qp0; generalize u36 = qp1; cases qp0 <;> cases qp1 <;> kernel_rfl) ?_
 refine d_take ⟨(L62 r1 u36) ++ [E36, E37], [B5, B29], H39⟩ (by generalize r1 = qp0; generalize u36 = qp1; cases qp0 <;> cases qp1 <;> kernel_rfl) ?_
 refine d_take ⟨(L62 r1 u36) ++ [E36, E37, (79, vb (r43 != j38.Depth_))], [B5, B29], H39⟩ (by generalize r1 = qp0; generalize u36 = qp1; cases qp0 <;> cases qp1 <;> kernel_rfl) ?_
 rcases if_inv hB49 with ⟨h45, hB49⟩ | ⟨h45, hB49⟩
 refine d_eq (congrArg (fun q => (⟨(L62 r1 u36) ++ [(77, vb q), (78, vb q), (79, vb q)], [B5, B29], H39⟩ : St)) h45) ?_
 refine d_take ⟨(L71 r1 u36), [B5, B29], H39⟩ (by generalize r1 = qp0; generalize u36 = qp1; cases qp0 <;> cases qp1 <;> kernel_rfl) ?_
 refine d_take ⟨(L71 r1 u36) ++ [(82, vN)], [B5, B29], H39⟩ (by generalize r1 = qp0; generalize u36 = qp1; cases qp0 <;> cases qp1 <;> kernel_rfl) ?_
 refine d_take ⟨(L71 r1 u36) ++ L69, [B5, B29], H39⟩ (by generalize r1 = qp0; generalize u36 = qp1; cases qp0 <;> cases qp1 <;> kernel_rfl) ?_
 refine d_last ⟨(L71 r1 u36) ++ [(81, vN)] ++ L69, [B5, B29], H39⟩ (by generalize r1 = qp0; generalize u36 = qp1; cases qp0 <;> cases qp1 <;> kernel_rfl) ?_
 refine d_take ⟨(L71 r1 u36) ++ L80, [B5, B29], H39⟩ (by generalize r1 = qp0; generalize u36 = qp1; cases qp0 <;> cases qp1 <;> kernel_rfl) ?_
 refine d_take ⟨(L71 r1 u36) ++ L80 ++ [(85, vT)], [B5, B29], H39⟩ (by generalize r1 = qp0; generalize u36 = qp1; cases qp0 <;> cases qp1 <;> kernel_rfl) ?_
 cases hB49
 exact yde
 refine d_eq (congrArg (fun q => (⟨(L62 r1 u36) ++ [(77, vb q), (78, vb q), (79, vb q)], [B5, B29], H39⟩ : St)) h45) ?_
 refine d_take ⟨(L70 r1 u36), [B5, B29], H39⟩ (by generalize r1 = qp0; generalize u36 = qp1; cases qp0 <;> cases qp1 <;> kernel_rfl) ?_
 refine d_take ⟨(L70 r1 u36) ++ [E38], [B5, B29], H39⟩ (by generalize r1 = qp0; generalize u36 = qp1; cases qp0 <;> cases qp1 <;> kernel_rfl) ?_
 refine d_take ⟨(L70 r1 u36) ++ [E38, E39], [B5, B29], H39⟩ (by generalize r1 = qp0; generalize u36 = qp1; cases qp0 <;> cases qp1 <;> kernel_rfl) ?_
 obtain ⟨r46, c47, hB49⟩ := bind1_inv hB49
 let E40 : EN := (84, vb (r46 != j38.Err_))
 let L83 : Ptr → Option (List Int) → List EN := fun z0 z1 => (L70 z0 z1) ++ [(81, vi r46), E38, E39]
 refine d_last ⟨(L83 r1 u36), [B5, B29], H39⟩ (yc (some 81) true false (⟨(L70 r1 u36) ++ [E38, E39], [B5, B29], H39⟩ : St) (ok_emit_Code_Err H39 c47) (hr := (by generalize r1 = qp0; generalize u36 = qp1; cases qp0 <;> cases qp1 <;> kernel_rfl)) (hs := (by generalize r1 = qp0; generalize u36 = qp1; cases qp0 <;> cases qp1 <;> kernel_rfl))) ?_
 refine d_take ⟨(L83 r1 u36) ++ [E40], [B5, B29], H39⟩ (by generalize r1 = qp0; generalize u36 = qp1; cases qp0 <;> cases qp1 <;> kernel_rfl) ?_
 refine d_take ⟨(L83 r1 u36) ++ [E40, (85, vb (r46 != j38.Err_))], [B5, B29], H39⟩ (by generalize r1 = qp0; generalize u36 = qp1; cases qp0 <;> cases qp1 <;> kernel_rfl) ?_
 cases hB49
 exact yde
 rcases if_inv hF with ⟨h50, hF⟩ | ⟨h50, hF⟩
 refine yT h50 ⟨(L54 r1), [B5, B29], H39⟩ ?_
 refine w_seq ?_
 refine w_regD (.take 0 (.take 1 (.take 2 (.last 3 (.take 4 .done))))) (by kernel_rfl) (⟨(L79 r1), [B41], H39⟩ : St) ?_ ?_
 refine d_take ⟨(L54 r1) ++ [(E42 r1)], [B5, B29], H39⟩ (by generalize r1 = qp0; cases qp0 <;> kernel_rfl) ?_
 refine d_take ⟨(L54 r1) ++ [(E42 r1), E43], [B5, B29], H39⟩ (by generalize r1 = qp0; cases qp0 <;> kernel_rfl) ?_
 refine d_take ⟨[(E44 r1)] ++ (L54 r1) ++ [(E42 r1), E43], [B5, B29], H39⟩ (by generalize r1 = qp0; cases qp0 <;> kernel_rfl) ?_
 refine d_last ⟨[(E44 r1)] ++ (L54 r1) ++ [(E42 r1), E43], [B41, B29], H39⟩ (by generalize r1 = qp0; cases qp0 <;> kernel_rfl) ?_
 refine d_take ⟨(L79 r1) ++ [(E6 r1), E8, (E42 r1), E43], [B41, B29], H39⟩ (by generalize r1 = qp0; cases qp0 <;> kernel_rfl) ?_
 exact yde
 refine w_ret ?_
 cases hF
 exact ⟨_, rfl, (by kernel_rfl)⟩
 refine yF h50 ⟨(L56 r1 u36), [B5, B29], H39⟩ ?_
 refine w_skip ?_
 exact ⟨(u36, j25, j37, j38, H39), hF, (by kernel_rfl)⟩
 rcases if_inv hF with ⟨h51, hF⟩ | ⟨h51, hF⟩
 refine yT h51 ⟨(L61 r1 u24) ++ [E16], [B5, B22], H34⟩ ?_
 refine w_seq ?_
 obtain ⟨v52, h53, hF⟩ := bind1_inv hF
 obtain ⟨H55, c54, hF⟩ := bind1_inv hF
 refine w_regO ⟨(L78 r1), [B5, B22], H55⟩ ?_ ?_
 refine yr 1 ⟨(L61 r1 u24) ++ [E16, (E45 r1)], [B5, B22], H34⟩ ?_ (h := (by generalize r1 = qp0; generalize u24 = qp1; cases qp0 <;> cases qp1 <;> kernel_rfl))
 refine o_eq (congrArg (fun q => (⟨(L55 r1) ++ [(7, mayT (eI .i64) 1 1 q), E28, E16, (E45 r1)], [B5, B22], H34⟩ : St)) h53) ?_
 refine yr 1 ⟨(L78 r1) ++ [(E45 r1), (62, .one (.own 1) (.sl 1 (List.map (eI .i64) v52)))], [B5, B22], H34⟩ ?_ (h := (by generalize r1 = qp0; cases qp0 <;> kernel_rfl))
 refine o_one ⟨(L78 r1) ++ [(E45 r1), (62, .one .top .junk), (63, vN)], [B5, B22], H55⟩ (yc (some 63) false true (⟨(L78 r1) ++ [(E45 r1), (62, .one .top .junk)], [B5, B22], H34⟩ : St) (ok_emit_Code_Show H34 c54) (hr := (by generalize r1 = qp0; cases qp0 <;> kernel_rfl)) (hs := (by generalize r1 = qp0; cases qp0 <;> kernel_rfl))) ?_
 exact ye
 refine ysg ⟨(L78 r1), [B5, B46], H55⟩ ?_ (h := (by generalize r1 = qp0; cases qp0 <;> kernel_rfl))
 refine w_reg ⟨(L55 r1) ++ [E47, E28, (9, vi (-1)), E16], [B5, B46], H55⟩ (by generalize r1 = qp0; cases qp0 <;> kernel_rfl) ?_
 exact ⟨(none, -1, (T_ref17_Code.mk r32.L_ r32.G_ r32.Fixups_ r32.Pads_ j25 r32.Depth_ r32.Most_ r32.Err_), H55), hF, (by kernel_rfl)⟩
 refine yF h51 ⟨(L66 r1 u24), [B5, B22], H34⟩ ?_
 refine w_skip ?_
 exact ⟨(u24, j26, r32, H34), hF, (by kernel_rfl)⟩
 rcases if_inv hF with ⟨h56, hF⟩ | ⟨h56, hF⟩
 refine yT h56 ⟨(L55 r1) ++ L59, [B5, B14, B17], H10⟩ ?_
 refine w_seq ?_
 obtain ⟨H59, r57, c58, hF⟩ := bind2_inv hF
 let E48 : EN := (7, mayT (eI .i64) 1 1 (some r57))
 let L82 : Ptr → List EN := fun z0 => (L55 z0) ++ [E48, (8, .one (.own 0) (.sl 1 (List.map (eI .i64) a8.Active_)))]
 refine w_regD (.take 0 (.take 2 (.take 3 (.last 1 (.take 4 (.take 5 .done)))))) (by kernel_rfl) (⟨(L82 r1) ++ L59, [B5, B14, B17], H59⟩ : St) ?_ ?_
 refine d_take ⟨(L75 r1), [B5, B14, B17], H10⟩ (by generalize r1 = qp0; cases qp0 <;> kernel_rfl) ?_
 refine d_take ⟨(L75 r1) ++ [(42, vl 6 4)], [B5, B14, B17], H10⟩ (by generalize r1 = qp0; cases qp0 <;> kernel_rfl) ?_
 refine d_take ⟨(L75 r1) ++ L74, [B5, B14, B17], H10⟩ (by generalize r1 = qp0; cases qp0 <;> kernel_rfl) ?_
 refine d_last ⟨(L75 r1) ++ [(41, .one (.own 1) (.sl 1 (List.map (eI .i64) r57)))] ++ L74, [B5, B14, B17], H59⟩ (yc (some 41) false false (⟨(L75 r1) ++ L74, [B5, B14, B17], H10⟩ : St) (ok_emit_Code_Hide H10 c58) (hr := (by generalize r1 = qp0; cases qp0 <;> kernel_rfl)) (hs := (by generalize r1 = qp0; cases qp0 <;> kernel_rfl))) ?_
 refine d_take ⟨(L55 r1) ++ [E48] ++ L59 ++ [(40, vp r1), (41, .one .top .junk)] ++ L74, [B5, B14, B17], H59⟩ (by generalize r1 = qp0; cases qp0 <;> kernel_rfl) ?_
 refine d_take ⟨(L82 r1) ++ L59 ++ [(40, vp r1), (41, .one .top .junk)] ++ L74, [B5, B14, B17], H59⟩ (by generalize r1 = qp0; cases qp0 <;> kernel_rfl) ?_
 exact yde
 refine ysg ⟨(L82 r1) ++ L59, [B5, B49, B17], H59⟩ ?_ (h := (by generalize r1 = qp0; cases qp0 <;> kernel_rfl))
 refine w_reg ⟨(L82 r1) ++ [(9, vi a7)] ++ L59, [B5, B49, B17], H59⟩ (by generalize r1 = qp0; cases qp0 <;> kernel_rfl) ?_
 exact ⟨((some r57), a8.Active_, a7, (T_ref17_Code.mk a8.L_ a8.G_ a8.Fixups_ a8.Pads_ ([] : List Int) a8.Depth_ a8.Most_ a8.Err_), H59), hF, (by kernel_rfl)⟩
 refine yF h56 ⟨(L63 r1 u5), [B5, B14, B17], H10⟩ ?_
 refine w_skip ?_
 exact ⟨(u5, a9, a6, a8, H10), hF, (by kernel_rfl)⟩
 refine yF h12 ⟨(L54 r1), [B5, B14], H10⟩ ?_
 refine w_exit ?_
 cases hF
 exact ⟨_, rfl, (by kernel_rfl)⟩
 rcases sum2_inv hF with ⟨r60', rfl, hF⟩ | ⟨r60', rfl, hF⟩
 obtain ⟨b62, H63⟩ := r60'
 replace hF := tup2_inv hF
 let B50 : EB := (6, (m1_ref17_Code b62))
 let B51 : EB := (3, (m1_ref17_Code b62))
 let E53 : EN := (89, .agg (m1_ref17_Code b62))
 refine w_oe (i := 0) (s := (⟨(L54 r1), [B5, B50], H63⟩ : St)) (by kernel_rfl) ?_
 refine e_here ?_
 refine w_seq ?_
 refine w_regD (.take 0 (.take 1 (.take 2 (.last 3 (.take 4 .done))))) (by kernel_rfl) (⟨[(E44 r1), E4, (4, vT)], [B51], H63⟩ : St) ?_ ?_
 refine d_take ⟨(L54 r1) ++ [(E52 r1)], [B5, B50], H63⟩ (by generalize r1 = qp0; cases qp0 <;> kernel_rfl) ?_
 refine d_take ⟨(L54 r1) ++ [(E52 r1), E53], [B5, B50], H63⟩ (by generalize r1 = qp0; cases qp0 <;> kernel_rfl) ?_
 refine d_take ⟨[(E44 r1)] ++ (L54 r1) ++ [(E52 r1), E53], [B5, B50], H63⟩ (by generalize r1 = qp0; cases qp0 <;> kernel_rfl) ?_
 refine d_last ⟨[(E44 r1)] ++ (L54 r1) ++ [(E52 r1), E53], [B51, B50], H63⟩ (by generalize r1 = qp0; cases qp0 <;> kernel_rfl) ?_
 refine d_take ⟨[(E44 r1), E4, (4, vT), (E6 r1), E8, (E52 r1), E53], [B51, B50], H63⟩ (by generalize r1 = qp0; cases qp0 <;> kernel_rfl) ?_
 exact yde
 refine w_ret ?_
 obtain ⟨e0, e1, e2, e3⟩ := some4_inv hF
 subst e0
 subst e1
 subst e2
 subst e3
 exact fin_imp (v := .tup [vp r1, .agg (m1_ref17_Code b62), vT]) (by generalize r1 = qp0; cases qp0 <;> kernel_rfl) (by kernel_rfl) (by kernel_rfl)
 obtain ⟨b64, H65⟩ := r60'
 replace hF := tup2_inv hF
 refine w_or (s := (⟨(L79 r1), [(3, (m1_ref17_Code b64))], H65⟩ : St)) (by kernel_rfl) ?_
 obtain ⟨e0, e1, e2, e3⟩ := some4_inv hF
 subst e0
 subst e1
 subst e2
 subst e3
 exact fin_imp (v := .tup [vp r1, .agg (m1_ref17_Code b64), vF]) (by generalize r1 = qp0; cases qp0 <;> kernel_rfl) (by kernel_rfl) (by kernel_rfl)
noncomputable def emit_Code_Most (H : Heap) (p0 : Ptr) : Option (Heap × Int) :=
  (p0).bnd fun i1 o2 =>
  bind1 (get_emit_Code H i1 o2) fun x4 =>
  bnd (set_emit_Code H i1 o2 (T_emit_Code.mk x4.words_ x4.fixups_ x4.marks_ x4.pads_ x4.active_ x4.depth_ x4.depth_ x4.err_)) fun H6 =>
  some (H6, x4.most_)
theorem ok_emit_Code_Most (H : Heap) {p0 : Ptr} {ra : Int} {Hr : Heap} (hF : emit_Code_Most H p0 = some (Hr, ra)) : evS X 6 [.one .top (Ptr.av p0)] H = some (.one .top (.int .i64 ra), Hr) := by
 refine yf Try.func6 false ⟨[(0, vp p0)], [], H⟩ ?_
 unfold emit_Code_Most at hF
 refine ysg ⟨[(0, vp p0)], [], H⟩ ?_ (h := (by generalize p0 = qp0; cases qp0 <;> kernel_rfl))
 refine w_seq ?_
 obtain ⟨i1, o2, h3, hF⟩ := pbnd_inv hF
 let E2 : EN := (0, vo i1 o2)
 let L6 : List EN := [E2, (4, vo i1 o2), (5, vo i1 o2), (6, vo i1 (o2 + 6))]
 obtain ⟨x4, V5, hF⟩ := bind1_inv hF
 replace V5 := hgetT_inv V5
 let W1 : Heap := hset H i1 o2 [((.own 1), .sl 1 (List.map (eI .u32) x4.words_)), ((.own 1), .sl 4 (List.map e_api_Fixup x4.fixups_)), ((.own 1), .sl 2 (List.map e_api_Segment x4.marks_.list_)), ((.own 1), .sl 1 (List.map (eI .i64) x4.pads_)), ((.own 1), .sl 1 (List.map (eI .i64) x4.active_)), (.top, .int .i64 x4.depth_), (.top, .int .i64 x4.depth_), (.top, .int .i64 x4.err_)]
 let E3 : EN := (3, vi x4.most_)
 let L4 : List EN := [E2, E3, (8, vo i1 o2), (9, vo i1 o2), (10, vo i1 o2), (11, vo i1 (o2 + 5))]
 let L5 : List EN := L4 ++ [(12, vi x4.depth_), (13, vo i1 o2), (14, vo i1 (o2 + 6))]
 refine w_regO ⟨[E2, E3], [], H⟩ ?_ ?_
 refine yr 1 ⟨[(0, vp p0), (4, vp p0)], [], H⟩ ?_ (h := (by generalize p0 = qp0; cases qp0 <;> kernel_rfl))
 refine o_eq (congrArg (fun q => (⟨[(0, vp q), (4, vp q)], [], H⟩ : St)) h3) ?_
 refine yr 1 ⟨[E2, (4, vo i1 o2), (5, vo i1 o2)], [], H⟩ ?_
 refine yr 1 ⟨L6, [], H⟩ ?_
 refine o_one ⟨L6 ++ [(7, vi x4.most_)], [], H⟩ (yd (X := X) (⟨L6, [], H⟩ : St) 3 V5 6 1 false (vi x4.most_) (some 7)) ?_
 refine yr 1 ⟨[E2, E3, (4, vo i1 o2), (5, vo i1 o2), (6, vo i1 (o2 + 6)), (7, vi x4.most_)], [], H⟩ ?_
 exact ye
 refine w_seq ?_
 obtain ⟨H6, h7, hF⟩ := bnd_inv hF
 have V8 : hget H6 i1 o2 8 = some (o_emit_Code (T_emit_Code.mk x4.words_ x4.fixups_ x4.marks_ x4.pads_ x4.active_ x4.depth_ x4.depth_ x4.err_)) := by rw [← h7]; exact hset_get V5 rfl
 refine w_regO ⟨[E3], [], H6⟩ ?_ ?_
 refine yr 4 ⟨L4, [], H⟩ ?_
 refine o_one ⟨L4 ++ [(12, vi x4.depth_)], [], H⟩ (yd (X := X) (⟨L4, [], H⟩ : St) 3 V5 5 1 false (vi x4.depth_) (some 12)) ?_
 refine yr 2 ⟨L5, [], H⟩ ?_
 refine o_one ⟨L5, [], W1⟩ (st_st (X := X) (lc := []) (h2 := W1) (⟨L5, [], H⟩ : St) 3 V5 6 1 (vi x4.depth_) (by kernel_rfl) (by kernel_rfl) (by kernel_rfl) (by kernel_rfl) (by kernel_rfl) (by kernel_rfl) (hset_sub0 V5 (Nat.le_of_ble_eq_true rfl)) (by kernel_rfl)) ?_
 refine o_eq (congrArg (fun q => (⟨L5, [], q⟩ : St)) h7) ?_
 exact ye
 refine ysg ⟨[(2, vi x4.most_)], [], H6⟩ ?_
 refine w_ret ?_
 obtain ⟨e0, e1⟩ := some2_inv hF
 subst e0
 subst e1
 exact yi (vi x4.most_)
noncomputable def ref02_Encode  (p0 : T_ref02_Instr) : Option (Int × Int) :=
  bind1 (ref02_Check p0) fun r1 =>
  if (r1 != 0) = true then (some (0, r1))
  else (bind1 (ref02_Shape p0.Op_) fun r4 =>
  if (r4 == 7) = true then (some ((IntKind.wrap .u32 (IntKind.wrap .i64 ((IntKind.wrap .i64 (p0.Op_ * 16777216)) + (Int.tmod (IntKind.wrap .i64 (p0.Imm_ + 16777216)) 16777216)))), 0))
  else (some ((IntKind.wrap .u32 (IntKind.wrap .i64 ((IntKind.wrap .i64 ((IntKind.wrap .i64 ((IntKind.wrap .i64 ((IntKind.wrap .i64 (p0.Op_ * 16777216)) + (IntKind.wrap .i64 (p0.A_ * 1048576)))) + (IntKind.wrap .i64 (p0.B_ * 65536)))) + (Int.tmod (IntKind.wrap .i64 (p0.Imm_ + 65536)) 65536))) + p0.C_))), 0)))
theorem ok_ref02_Encode (H : Heap) {p0 : T_ref02_Instr} {ra : Int} {rb : Int} (hF : ref02_Encode p0 = some (ra, rb)) : evS X 24 [.agg (m0_ref02_Instr p0)] H = some (.tup [.one .top (.int .u32 ra), .one .top (.int .i64 rb)], H) := by
 let E1 : EN := (1, vl 1 0)
 let B2 : EB := (1, (m0_ref02_Instr p0))
 let E3 : EN := (6, .agg (m0_ref02_Instr p0))
 let L4 : List EN := [E1, (5, vi (IntKind.wrap .i64 (p0.Op_ * 16777216)))]
 let L5 : List EN := L4 ++ [(14, vl 1 0), (15, vi p0.Op_)]
 refine yf Try.func24 true ⟨[(0, .agg (m0_ref02_Instr p0))], [], H⟩ ?_
 unfold ref02_Encode at hF
 refine ysg ⟨[E1], [B2], H⟩ ?_
 refine w_seq ?_
 refine w_seq ?_
 obtain ⟨r1, c2, hF⟩ := bind1_inv hF
 refine w_regO ⟨[E1, (4, vi r1)], [B2], H⟩ ?_ ?_
 refine yr 1 ⟨[E1, E3], [B2], H⟩ ?_
 refine o_one ⟨[E1, E3, (7, vi r1)], [B2], H⟩ (yc (some 7) true false (⟨[E1, E3], [B2], H⟩ : St) (ok_ref02_Check H c2)) ?_
 refine yr 1 ⟨[E1, (4, vi r1), E3, (7, vi r1)], [B2], H⟩ ?_
 exact ye
 refine ysg ⟨[E1, (4, vi r1), (9, vb (r1 != 0))], [B2], H⟩ ?_
 rcases if_inv hF with ⟨h3, hF⟩ | ⟨h3, hF⟩
 refine yT h3 ⟨[(4, vi r1)], [], H⟩ ?_
 refine ysg ⟨[(2, vu 0), (3, vi r1)], [], H⟩ ?_
 refine w_ret ?_
 obtain ⟨e0, e1⟩ := some2_inv hF
 subst e0
 subst e1
 exact yp (.tup [vu 0, vi r1])
 refine yF h3 ⟨[E1], [B2], H⟩ ?_
 refine w_skip ?_
 refine ysg ⟨L4, [B2], H⟩ ?_
 refine w_seq ?_
 refine w_seq ?_
 obtain ⟨r4, c5, hF⟩ := bind1_inv hF
 refine w_regO ⟨L4 ++ [(17, vb (r4 == 7))], [B2], H⟩ ?_ ?_
 refine yr 2 ⟨L5, [B2], H⟩ ?_
 refine o_one ⟨L5 ++ [(16, vi r4)], [B2], H⟩ (yc (some 16) true false (⟨L5, [B2], H⟩ : St) (ok_ref02_Shape H c5)) ?_
 refine yr 1 ⟨L5 ++ [(16, vi r4), (17, vb (r4 == 7))], [B2], H⟩ ?_
 exact ye
 rcases if_inv hF with ⟨h6, hF⟩ | ⟨h6, hF⟩
 refine yT h6 ⟨L4, [B2], H⟩ ?_
 refine ysg ⟨[(2, vu (IntKind.wrap .u32 (IntKind.wrap .i64 ((IntKind.wrap .i64 (p0.Op_ * 16777216)) + (Int.tmod (IntKind.wrap .i64 (p0.Imm_ + 16777216)) 16777216))))), (3, vi 0)], [], H⟩ ?_
 refine w_ret ?_
 obtain ⟨e0, e1⟩ := some2_inv hF
 subst e0
 subst e1
 exact yp (.tup [vu (IntKind.wrap .u32 (IntKind.wrap .i64 ((IntKind.wrap .i64 (p0.Op_ * 16777216)) + (Int.tmod (IntKind.wrap .i64 (p0.Imm_ + 16777216)) 16777216)))), vi 0])
 refine yF h6 ⟨L4, [B2], H⟩ ?_
 refine w_skip ?_
 refine ysg ⟨[(2, vu (IntKind.wrap .u32 (IntKind.wrap .i64 ((IntKind.wrap .i64 ((IntKind.wrap .i64 ((IntKind.wrap .i64 ((IntKind.wrap .i64 (p0.Op_ * 16777216)) + (IntKind.wrap .i64 (p0.A_ * 1048576)))) + (IntKind.wrap .i64 (p0.B_ * 65536)))) + (Int.tmod (IntKind.wrap .i64 (p0.Imm_ + 65536)) 65536))) + p0.C_)))), (3, vi 0)], [], H⟩ ?_
 refine w_ret ?_
 obtain ⟨e0, e1⟩ := some2_inv hF
 subst e0
 subst e1
 exact yp (.tup [vu (IntKind.wrap .u32 (IntKind.wrap .i64 ((IntKind.wrap .i64 ((IntKind.wrap .i64 ((IntKind.wrap .i64 ((IntKind.wrap .i64 (p0.Op_ * 16777216)) + (IntKind.wrap .i64 (p0.A_ * 1048576)))) + (IntKind.wrap .i64 (p0.B_ * 65536)))) + (Int.tmod (IntKind.wrap .i64 (p0.Imm_ + 65536)) 65536))) + p0.C_))), vi 0])
noncomputable def ref17_Words_L1 (p0 : T_ref17_Code) (a1 : (List Int)) (a2 : Int) : Option (((List Int) × Int) ⊕ (((List Int)))) :=
  if (decide (a2 < (p0.L_.length : Int))) = true then (bind1 (gi p0.L_ a2) fun x4 =>
  bind2 (ref02_Encode x4) fun r6 r7 =>
  bind1 (app 4 a1 ([r6] : List Int)) fun v9 =>
  some (Sum.inl (v9, (IntKind.wrap .i64 (a2 + 1)))))
  else (some (Sum.inr a1))
noncomputable def ref17_Words  (p0 : T_ref17_Code) : Option ((List Int)) :=
  bind1 (loopO (fun (x : ((List Int) × Int)) => ref17_Words_L1 p0 x.1 x.2) (([] : List Int), 0)) (fun b13 =>
  some b13)
theorem ok_ref17_Words (H : Heap) {p0 : T_ref17_Code} {ra : (List Int)} (hF : ref17_Words p0 = some ra) : evS X 9 [.agg (m1_ref17_Code p0)] H = some (.one (.own 0) (.sl 1 (List.map (eI .u32) ra)), H) := by
 let E1 : EN := (1, vl 1 0)
 let B2 : EB := (1, (m1_ref17_Code p0))
 let E3 : EN := (3, .one (.own 1) (.sl 1 (List.map (eI .u32) ([] : List Int))))
 let E5 : EN := (10, vi (p0.L_.length : Int))
 let E10 : EN := (3, .one .top .junk)
 refine yf Try.func9 true ⟨[(0, .agg (m1_ref17_Code p0))], [], H⟩ ?_
 unfold ref17_Words at hF
 refine ysg ⟨[E1], [B2], H⟩ ?_
 refine ysg ⟨[E1, E3], [B2], H⟩ ?_
 refine w_seq ?_
 refine ysg ⟨[E1, E3, (4, vi 0)], [B2], H⟩ ?_
 refine w_block ?_
 obtain ⟨r11, hL12, hF⟩ := bind1_inv hF
 refine w_loop (fun (x : ((List Int) × Int)) => (⟨[E1, (3, .one (.own 1) (.sl 1 (List.map (eI .u32) x.1))), (4, vi x.2)], [B2], H⟩ : St)) (fun (y : ((List Int))) => ((.exit 0, (⟨[(3, .one (.own 1) (.sl 1 (List.map (eI .u32) y)))], [], H⟩ : St)) : Ex × St)) hL12 (by kernel_rfl) ?_ ?_
 rintro ⟨a1, a2⟩ o hF
 replace hF : ref17_Words_L1 p0 a1 a2 = some o := hF
 let E4 : EN := (11, vb (decide (a2 < (p0.L_.length : Int))))
 let E11 : EN := (3, .one (.own 1) (.sl 1 (List.map (eI .u32) a1)))
 let L12 : List EN := [E1, E11, (4, vi a2)]
 let L13 : List EN := [(15, vl 1 0), (16, .one (.own 0) (.sl 5 (List.map e_ref02_Instr p0.L_))), (17, vi a2)]
 let L14 : List EN := L12 ++ [(7, vi a2), (8, vl 1 0), (9, .one (.own 0) (.sl 5 (List.map e_ref02_Instr p0.L_)))]
 unfold ref17_Words_L1 at hF
 refine w_seq ?_
 refine yso ⟨L12 ++ [E4], [B2], H⟩ ?_ ?_
 refine yr 3 ⟨L14, [B2], H⟩ ?_
 refine o_one ⟨L14 ++ [E5], [B2], H⟩ (yl (⟨L14, [B2], H⟩ : St) p0.L_ e_ref02_Instr (some 10)) ?_
 refine yr 1 ⟨L14 ++ [E5, E4], [B2], H⟩ ?_
 exact ye
 rcases if_inv hF with ⟨h3, hF⟩ | ⟨h3, hF⟩
 refine yT h3 ⟨L12, [B2], H⟩ ?_
 refine w_skip ?_
 refine w_seq ?_
 refine w_block ?_
 refine w_seq ?_
 obtain ⟨x4, h5, hF⟩ := bind1_inv hF
 let E6 : EN := (18, .one .top (.rd (.own 0) (.own 0) [.int .i64 x4.Op_, .int .i64 x4.A_, .int .i64 x4.B_, .int .i64 x4.C_, .int .i64 x4.Imm_] 0))
 let E8 : EN := (19, .agg (m0_ref02_Instr x4))
 let L15 : List EN := L12 ++ L13 ++ [E6, E8]
 obtain ⟨r6, r7, c8, hF⟩ := bind2_inv hF
 let E7 : EN := (20, .tup [vu r6, vi r7])
 let L16 : List EN := [(4, vi a2), (5, vu r6), (23, .one .top .junk), (24, vu r6), (25, .one .top .junk)]
 refine w_regO ⟨L12 ++ [(5, vu r6)], [B2], H⟩ ?_ ?_
 refine yr 3 ⟨L12 ++ L13, [B2], H⟩ ?_
 refine o_one ⟨L12 ++ L13 ++ [E6], [B2], H⟩ (st_ix (X := X) (⟨L12 ++ L13, [B2], H⟩ : St) 25 69 5 h5 e_ref02_Instr (.own 0) (some 18) (by kernel_rfl) (by kernel_rfl) (by kernel_rfl) (by kernel_rfl)) ?_
 refine yr 1 ⟨L15, [B2], H⟩ ?_
 refine o_one ⟨L15 ++ [E7], [B2], H⟩ (yc (some 20) true false (⟨L15, [B2], H⟩ : St) (ok_ref02_Encode H c8)) ?_
 refine yr 5 ⟨L12 ++ [(5, vu r6), (6, vi r7), (14, .tup [vu r6, vi r7])] ++ L13 ++ [E6, E8, E7, (21, vu r6), (22, vi r7)], [B2], H⟩ ?_
 exact ye
 obtain ⟨v9, h10, hF⟩ := bind1_inv hF
 let E9 : EN := (3, .one (.own 1) (.sl 1 (List.map (eI .u32) v9)))
 refine w_regO ⟨[E1, E9, (4, vi a2)], [B2], H⟩ ?_ ?_
 refine yr 3 ⟨[E1, E10, (4, vi a2), (5, vu r6), (23, .one (.own 1) (.sl 1 (List.map (eI .u32) a1))), (24, vu r6), (25, .one (.own 1) (.sl 1 (List.map (eI .u32) ([r6] : List Int))))], [B2], H⟩ ?_
 refine o_one ⟨[E1, E10] ++ L16 ++ [(26, .one (.own 1) (.sl 1 (List.map (eI .u32) v9)))], [B2], H⟩ (st_app (X := X) (⟨[E1, E10] ++ L16, [B2], H⟩ : St) 4 h10 33 33 48 1 0 [(.top, .int .u32 0)] (.own 1) (eI .u32) 0 (some 26) (by kernel_rfl) (by kernel_rfl) (by kernel_rfl) (by kernel_rfl) (by kernel_rfl) (by kernel_rfl) (by kernel_rfl) (by kernel_rfl) (by kernel_rfl) (fun _ => rfl) (by kernel_rfl)) ?_
 refine yr 1 ⟨[E1, E9] ++ L16 ++ [(26, .one .top .junk)], [B2], H⟩ ?_
 exact ye
 refine yg ⟨[E1, E9, (4, vi (IntKind.wrap .i64 (a2 + 1)))], [B2], H⟩ ?_
 cases hF
 exact ⟨_, rfl, (by kernel_rfl)⟩
 refine yF h3 ⟨[E11], [], H⟩ ?_
 refine w_exit ?_
 cases hF
 exact ⟨_, rfl, (by kernel_rfl)⟩
 obtain ⟨b13, hy⟩ : ∃ y, y = r11 := ⟨_, rfl⟩
 subst hy
 refine w_oe (i := 0) (s := (⟨[(3, .one (.own 1) (.sl 1 (List.map (eI .u32) b13)))], [], H⟩ : St)) (by kernel_rfl) ?_
 refine e_here ?_
 refine ysg ⟨[(2, .one (.own 1) (.sl 1 (List.map (eI .u32) b13)))], [], H⟩ ?_
 refine w_ret ?_
 obtain e0 := some1_inv hF
 subst e0
 exact yp (.one (.own 1) (.sl 1 (List.map (eI .u32) b13)))
theorem ok_ref01_Words_2 (H : Heap) {p0 : (List Int)} {p1 : (List Int)} {ra : Bool} (hF : ref01_Words p0 p1 = some ra) : evS X 8 [.one .ro (.sl 1 (List.map (eI .u32) p0)), .one (.own 0) (.sl 1 (List.map (eI .u32) p1))] H = some (.one .top (.bool ra), H) := by
 let E1 : EN := (10, vb ((p0.length : Int) != (p1.length : Int)))
 let E2 : EN := (6, .one .ro (.sl 1 (List.map (eI .u32) p0)))
 let E3 : EN := (7, vi (p0.length : Int))
 let E4 : EN := (9, vi (p1.length : Int))
 let E6 : EN := (13, vi (p0.length : Int))
 let E7 : EN := (17, .one .ro (.sl 1 (List.map (eI .u32) p0)))
 let E9 : EN := (21, .one (.own 0) (.sl 1 (List.map (eI .u32) p1)))
 let L11 : List EN := [(0, .one .ro (.sl 1 (List.map (eI .u32) p0))), (1, .one (.own 0) (.sl 1 (List.map (eI .u32) p1)))]
 let L16 : List EN := L11 ++ [E2, E3, (8, .one (.own 0) (.sl 1 (List.map (eI .u32) p1)))]
 let S17 : St := ⟨[], [], H⟩
 let S18 : St := ⟨[(4, vF)], [], H⟩
 refine yf Try.func8 true ⟨L11, [], H⟩ ?_
 unfold ref01_Words at hF
 refine ysg ⟨L11, [], H⟩ ?_
 refine w_seq ?_
 refine yso ⟨L11 ++ [E1], [], H⟩ ?_ ?_
 refine yr 1 ⟨L11 ++ [E2], [], H⟩ ?_
 refine o_one ⟨L11 ++ [E2, E3], [], H⟩ (yl (⟨L11 ++ [E2], [], H⟩ : St) p0 (eI .u32) (some 7)) ?_
 refine yr 1 ⟨L16, [], H⟩ ?_
 refine o_one ⟨L16 ++ [E4], [], H⟩ (yl (⟨L16, [], H⟩ : St) p1 (eI .u32) (some 9)) ?_
 refine yr 1 ⟨L16 ++ [E4, E1], [], H⟩ ?_
 exact ye
 rcases if_inv hF with ⟨h1, hF⟩ | ⟨h1, hF⟩
 refine yT h1 S17 ?_
 refine ysg S18 ?_
 refine w_ret ?_
 obtain e0 := some1_inv hF
 subst e0
 exact yp (vF)
 refine yF h1 ⟨L11, [], H⟩ ?_
 refine w_skip ?_
 refine w_seq ?_
 refine ysg ⟨L11 ++ [(5, vi 0)], [], H⟩ ?_
 refine w_block ?_
 obtain ⟨r9, hL10, hF⟩ := bind1_inv hF
 refine w_loop (fun (x : (Int)) => (⟨L11 ++ [(5, vi x)], [], H⟩ : St)) (Sum.elim (fun (y : Unit) => ((.exit 0, S17) : Ex × St)) (fun (y : Unit) => ((.ret, S18) : Ex × St))) hL10 (by kernel_rfl) ?_ ?_
 rintro a2 o hF
 replace hF : ref01_Words_L1 p0 p1 a2 = some o := hF
 let E5 : EN := (14, vb (decide (a2 < (p0.length : Int))))
 let L12 : List EN := L11 ++ [(5, vi a2)]
 let L13 : List EN := L12 ++ [E7, (18, vi a2)]
 let L15 : List EN := L12 ++ [(11, vi a2), (12, .one .ro (.sl 1 (List.map (eI .u32) p0)))]
 unfold ref01_Words_L1 at hF
 refine w_seq ?_
 refine yso ⟨L12 ++ [E5], [], H⟩ ?_ ?_
 refine yr 2 ⟨L15, [], H⟩ ?_
 refine o_one ⟨L15 ++ [E6], [], H⟩ (yl (⟨L15, [], H⟩ : St) p0 (eI .u32) (some 13)) ?_
 refine yr 1 ⟨L15 ++ [E6, E5], [], H⟩ ?_
 exact ye
 rcases if_inv hF with ⟨h3, hF⟩ | ⟨h3, hF⟩
 refine yT h3 ⟨L12, [], H⟩ ?_
 refine w_skip ?_
 refine w_seq ?_
 refine w_block ?_
 refine w_seq ?_
 obtain ⟨x4, h5, hF⟩ := bind1_inv hF
 let E8 : EN := (19, .one .top (.rd .ro .ro [.int .u32 x4] 0))
 let L14 : List EN := L13 ++ [E8, (20, vu x4), E9, (22, vi a2)]
 obtain ⟨x6, h7, hF⟩ := bind1_inv hF
 let E10 : EN := (23, .one .top (.rd (.own 0) (.own 0) [.int .u32 x6] 0))
 refine w_regD (.take 0 (.take 1 (.take 2 (.take 3 (.take 4 (.take 5 (.take 6 (.take 7 (.take 8 .done))))))))) (by kernel_rfl) (⟨L12 ++ [(25, vb (x4 != x6))], [], H⟩ : St) ?_ ?_
 refine ydk 2 ⟨L13, [], H⟩ ?_
 refine d_take ⟨L13 ++ [E8], [], H⟩ (st_ix (X := X) (⟨L13, [], H⟩ : St) 33 48 1 h5 (eI .u32) .ro (some 19) (by kernel_rfl) (by kernel_rfl) (by kernel_rfl) (by kernel_rfl)) ?_
 refine ydk 3 ⟨L14, [], H⟩ ?_
 refine d_take ⟨L14 ++ [E10], [], H⟩ (st_ix (X := X) (⟨L14, [], H⟩ : St) 33 48 1 h7 (eI .u32) (.own 0) (some 23) (by kernel_rfl) (by kernel_rfl) (by kernel_rfl) (by kernel_rfl)) ?_
 refine ydk 2 ⟨L14 ++ [E10, (24, vu x6), (25, vb (x4 != x6))], [], H⟩ ?_
 exact yde
 rcases if_inv hF with ⟨h8, hF⟩ | ⟨h8, hF⟩
 refine yT h8 S17 ?_
 refine ysg S18 ?_
 refine w_ret ?_
 cases hF
 exact ⟨_, rfl, (by kernel_rfl)⟩
 refine yF h8 ⟨L12, [], H⟩ ?_
 refine w_skip ?_
 refine yg ⟨L11 ++ [(5, vi (IntKind.wrap .i64 (a2 + 1)))], [], H⟩ ?_
 cases hF
 exact ⟨_, rfl, (by kernel_rfl)⟩
 refine yF h3 S17 ?_
 refine w_exit ?_
 cases hF
 exact ⟨_, rfl, (by kernel_rfl)⟩
 rcases sum2_inv hF with ⟨r9', rfl, hF⟩ | ⟨r9', rfl, hF⟩
 refine w_oe (i := 0) (s := S17) (by kernel_rfl) ?_
 refine e_here ?_
 refine ysg ⟨[(4, vT)], [], H⟩ ?_
 refine w_ret ?_
 obtain e0 := some1_inv hF
 subst e0
 exact yp (vT)
 refine w_or (s := S18) (by kernel_rfl) ?_
 obtain e0 := some1_inv hF
 subst e0
 exact yp (vF)
end Go.Proofs.Abs
