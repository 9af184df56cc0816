/- The law ItemCalls: whatever the input, it answers true. No conditions. (Part ItemCallsF3 of its proof.) -/
import Derived.Test.YtjheniapmdcelaaItemCallsF2
set_option linter.unusedVariables false
set_option linter.unusedSimpArgs false
set_option linter.unusedSectionVars false
/- Printed by gen (walk.py). -/
namespace Go.Proofs.Abs
open Go Go.Proofs
set_option linter.unusedVariables false
set_option maxRecDepth 100000
set_option maxHeartbeats 0
noncomputable def item_Gen_Enter (H : Heap) (p0 : Ptr) (p1 : Ptr) : Option (Heap) :=
  (p0).bnd fun i1 o2 =>
  bind1 (get_item_Gen H i1 o2) fun x4 =>
  bind1 (emit_Code_Push H x4.Code_ 14) fun H7 =>
  bind1 (get_item_Gen H7 i1 o2) fun x8 =>
  bind1 (emit_Code_Push H7 x8.Code_ 13) fun H11 =>
  bind1 (get_item_Gen H11 i1 o2) fun x12 =>
  bind1 (emit_Code_Drop H11 x12.Code_ 2) fun H15 =>
  bind1 (get_item_Gen H15 i1 o2) fun x16 =>
  bind2 (emit_Code_Most H15 x16.Code_) fun H20 r18 =>
  bind1 (get_item_Gen H20 i1 o2) fun x21 =>
  bind2 (emit_Code_Sign H20 x21.Code_ 5 13 15 0) fun H25 r23 =>
  bind1 (get_item_Gen H25 i1 o2) fun x26 =>
  bnd (set_item_Gen H25 i1 o2 (T_item_Gen.mk x26.Code_ x26.Level_ (T_item_Proc.mk 0 0 ([] : List Int) p1))) fun H28 =>
  bind2 (emit_Code_Sign H28 x26.Code_ 5 1 15 0) fun H33 r31 =>
  bind1 (get_item_Gen H33 i1 o2) fun x34 =>
  bnd (set_item_Gen H33 i1 o2 (T_item_Gen.mk x34.Code_ x34.Level_ (T_item_Proc.mk r31 x34.Proc_.size_ x34.Proc_.resets_ x34.Proc_.frame_))) fun H36 =>
  bind2 (emit_Code_Reg H36 x34.Code_ 32 1) fun H41 r39 =>
  bind1 (get_item_Gen H41 i1 o2) fun x42 =>
  bind2 (emit_Code_Sign H41 x42.Code_ 5 15 15 0) fun H46 r44 =>
  bind1 (get_item_Gen H46 i1 o2) fun x47 =>
  bnd (set_item_Gen H46 i1 o2 (T_item_Gen.mk x47.Code_ x47.Level_ (T_item_Proc.mk x47.Proc_.need_ r44 x47.Proc_.resets_ x47.Proc_.frame_))) fun H49 =>
  bind1 (emit_Code_Number H49 x47.Code_ 0 0) fun H53 =>
  bind1 (get_item_Gen H53 i1 o2) fun x54 =>
  bind2 (emit_Code_Sign H53 x54.Code_ 5 1 15 0) fun H58 r56 =>
  bind1 (get_item_Gen H58 i1 o2) fun x59 =>
  bind2 (emit_Code_Three H58 x59.Code_ 16 2 1 13) fun H63 r61 =>
  bind1 (get_item_Gen H63 i1 o2) fun x64 =>
  bind2 (emit_Code_Jump H63 x64.Code_ 21 2) fun H68 r66 =>
  bind1 (get_item_Gen H68 i1 o2) fun x69 =>
  bind2 (emit_Code_Sign H68 x69.Code_ 19 0 1 0) fun H73 r71 =>
  bind1 (get_item_Gen H73 i1 o2) fun x74 =>
  bind2 (emit_Code_Sign H73 x74.Code_ 5 1 1 4) fun H78 r76 =>
  bind1 (get_item_Gen H78 i1 o2) fun x79 =>
  bind1 (emit_Code_Back H78 x79.Code_ 22 0 r61) fun H82 =>
  bind1 (get_item_Gen H82 i1 o2) fun x83 =>
  bind1 (emit_Code_Land H82 x83.Code_ r66) fun H86 =>
  some H86
theorem ok_item_Gen_Enter (H : Heap) {p0 : Ptr} {p1 : Ptr} {Hr : Heap} (hF : item_Gen_Enter H p0 p1 = some Hr) : evS X 43 [.one .top (Ptr.av p0), .one .top (Ptr.av p1)] H = some (.tup [], Hr) := by
 let E1 : Ptr → EN := fun z0 => (1, vp z0)
 let E19 : Ptr → EN := fun z0 => (32, vp z0)
 let E20 : Ptr → EN := fun z0 => (33, .agg [(.top, .int .i64 0), (.top, .int .i64 0), ((.own 0), .sl 1 (List.map (eI .i64) ([] : List Int))), (.top, (Ptr.av z0))])
 refine yf Try.func43 false ⟨[(0, vp p0), (E1 p1)], [], H⟩ ?_
 unfold item_Gen_Enter at hF
 refine w_seq ?_
 obtain ⟨i1, o2, h3, hF⟩ := pbnd_inv hF
 let E2 : EN := (0, vo i1 o2)
 let E3 : EN := (6, vo i1 o2)
 let E4 : EN := (7, vo i1 o2)
 let E5 : EN := (8, vo i1 o2)
 let E6 : EN := (11, vo i1 o2)
 let E7 : EN := (12, vo i1 o2)
 let E8 : EN := (13, vo i1 o2)
 let E9 : EN := (16, vo i1 o2)
 let E10 : EN := (17, vo i1 o2)
 let E11 : EN := (18, vo i1 o2)
 let E12 : EN := (21, vo i1 o2)
 let E13 : EN := (22, vo i1 o2)
 let E14 : EN := (23, vo i1 o2)
 let E15 : EN := (26, vo i1 o2)
 let E16 : EN := (27, vo i1 o2)
 let E17 : EN := (28, vo i1 o2)
 let E18 : EN := (31, vo i1 o2)
 let E21 : EN := (34, vo i1 o2)
 let E22 : EN := (35, vo i1 (o2 + 2))
 let E23 : EN := (36, vo i1 o2)
 let E24 : EN := (37, vo i1 o2)
 let E25 : EN := (38, vo i1 o2)
 let E26 : EN := (39, vo i1 o2)
 let E29 : EN := (42, vo i1 o2)
 let E30 : EN := (43, vo i1 (o2 + 2))
 let E31 : EN := (44, vo i1 (o2 + 2))
 let E32 : EN := (45, vo i1 o2)
 let E33 : EN := (46, vo i1 o2)
 let E34 : EN := (47, vo i1 o2)
 let E35 : EN := (50, vo i1 o2)
 let E36 : EN := (51, vo i1 o2)
 let E37 : EN := (52, vo i1 o2)
 let E38 : EN := (53, vo i1 o2)
 let E41 : EN := (56, vo i1 o2)
 let E42 : EN := (57, vo i1 (o2 + 2))
 let E43 : EN := (58, vo i1 (o2 + 3))
 let E44 : EN := (59, vo i1 o2)
 let E45 : EN := (60, vo i1 o2)
 let E46 : EN := (61, vo i1 o2)
 let E47 : EN := (64, vo i1 o2)
 let E48 : EN := (65, vo i1 o2)
 let E49 : EN := (66, vo i1 o2)
 let E51 : EN := (69, vo i1 o2)
 let E52 : EN := (70, vo i1 o2)
 let E53 : EN := (71, vo i1 o2)
 let E56 : EN := (74, vo i1 o2)
 let E57 : EN := (75, vo i1 o2)
 let E58 : EN := (76, vo i1 o2)
 let E60 : EN := (79, vo i1 o2)
 let E61 : EN := (80, vo i1 o2)
 let E62 : EN := (81, vo i1 o2)
 let E63 : EN := (84, vo i1 o2)
 let E64 : EN := (85, vo i1 o2)
 let E65 : EN := (86, vo i1 o2)
 let E66 : EN := (89, vo i1 o2)
 let E67 : EN := (90, vo i1 o2)
 let E68 : EN := (91, vo i1 o2)
 let E70 : EN := (95, vo i1 o2)
 let E71 : EN := (96, vo i1 o2)
 let E72 : EN := (97, vo i1 o2)
 let S74 : Ptr → St := fun z0 => ⟨[E2, (E1 z0), E3, E4, E5], [], H⟩
 obtain ⟨⟨x4a, x4b, ⟨x4c, x4d, x4e, x4f⟩⟩, V5, hF⟩ := bind1_inv hF
 replace V5 := hgetT_inv V5
 let S75 : Ptr → Ptr → St := fun z0 z1 => ⟨[E2, (E1 z0), E3, E4, E5, (9, vp z1)], [], H⟩
 obtain ⟨H7, c6, hF⟩ := bind1_inv hF
 let S76 : Ptr → St := fun z0 => ⟨[E2, (E1 z0), E6, E7, E8], [], H7⟩
 refine w_regO ⟨[E2, (E1 p1)], [], H7⟩ ?_ ?_
 refine yr 1 ⟨[(0, vp p0), (E1 p1), (6, vp p0)], [], H⟩ ?_ (h := (by generalize p0 = qp0; generalize p1 = qp1; cases qp0 <;> cases qp1 <;> kernel_rfl))
 refine o_eq (congrArg (fun q => (⟨[(0, vp q), (E1 p1), (6, vp q)], [], H⟩ : St)) h3) ?_
 refine yr 1 ⟨[E2, (E1 p1), E3, E4], [], H⟩ ?_ (h := (by generalize p1 = qp0; cases qp0 <;> kernel_rfl))
 refine yr 1 (S74 p1) ?_ (h := (by generalize p1 = qp0; cases qp0 <;> kernel_rfl))
 refine o_one (S75 p1 x4a) (st_ld (X := X) (S74 p1) 26 V5 0 1 false (vp x4a) (some 9) (by generalize p1 = qp0; cases qp0 <;> kernel_rfl) (by generalize p1 = qp0; cases qp0 <;> kernel_rfl) (by generalize p1 = qp0; cases qp0 <;> kernel_rfl) (by generalize p1 = qp0; cases qp0 <;> kernel_rfl) (by generalize p1 = qp0; cases qp0 <;> kernel_rfl) (by generalize p1 = qp0; generalize x4a = qp1; cases qp0 <;> cases qp1 <;> kernel_rfl)) ?_
 refine o_one ⟨[E2, (E1 p1), E3, E4, E5, (9, vp x4a), (10, vN)], [], H7⟩ (yc (some 10) false false (S75 p1 x4a) (ok_emit_Code_Push H c6) (hr := (by generalize p1 = qp0; generalize x4a = qp1; cases qp0 <;> cases qp1 <;> kernel_rfl)) (hs := (by generalize p1 = qp0; generalize x4a = qp1; cases qp0 <;> cases qp1 <;> kernel_rfl))) ?_
 exact ye
 refine w_seq ?_
 obtain ⟨⟨x8a, x8b, ⟨x8c, x8d, x8e, x8f⟩⟩, V9, hF⟩ := bind1_inv hF
 replace V9 := hgetT_inv V9
 let S77 : Ptr → Ptr → St := fun z0 z1 => ⟨[E2, (E1 z0), E6, E7, E8, (14, vp z1)], [], H7⟩
 obtain ⟨H11, c10, hF⟩ := bind1_inv hF
 let S78 : Ptr → St := fun z0 => ⟨[E2, (E1 z0), E9, E10, E11], [], H11⟩
 refine w_regO ⟨[E2, (E1 p1)], [], H11⟩ ?_ ?_
 refine yr 2 ⟨[E2, (E1 p1), E6, E7], [], H7⟩ ?_ (h := (by generalize p1 = qp0; cases qp0 <;> kernel_rfl))
 refine yr 1 (S76 p1) ?_ (h := (by generalize p1 = qp0; cases qp0 <;> kernel_rfl))
 refine o_one (S77 p1 x8a) (st_ld (X := X) (S76 p1) 26 V9 0 1 false (vp x8a) (some 14) (by generalize p1 = qp0; cases qp0 <;> kernel_rfl) (by generalize p1 = qp0; cases qp0 <;> kernel_rfl) (by generalize p1 = qp0; cases qp0 <;> kernel_rfl) (by generalize p1 = qp0; cases qp0 <;> kernel_rfl) (by generalize p1 = qp0; cases qp0 <;> kernel_rfl) (by generalize p1 = qp0; generalize x8a = qp1; cases qp0 <;> cases qp1 <;> kernel_rfl)) ?_
 refine o_one ⟨[E2, (E1 p1), E6, E7, E8, (14, vp x8a), (15, vN)], [], H11⟩ (yc (some 15) false false (S77 p1 x8a) (ok_emit_Code_Push H7 c10) (hr := (by generalize p1 = qp0; generalize x8a = qp1; cases qp0 <;> cases qp1 <;> kernel_rfl)) (hs := (by generalize p1 = qp0; generalize x8a = qp1; cases qp0 <;> cases qp1 <;> kernel_rfl))) ?_
 exact ye
 refine w_seq ?_
 obtain ⟨⟨x12a, x12b, ⟨x12c, x12d, x12e, x12f⟩⟩, V13, hF⟩ := bind1_inv hF
 replace V13 := hgetT_inv V13
 let S79 : Ptr → Ptr → St := fun z0 z1 => ⟨[E2, (E1 z0), E9, E10, E11, (19, vp z1)], [], H11⟩
 obtain ⟨H15, c14, hF⟩ := bind1_inv hF
 let S80 : Ptr → St := fun z0 => ⟨[E2, (E1 z0), E12, E13, E14], [], H15⟩
 refine w_regO ⟨[E2, (E1 p1)], [], H15⟩ ?_ ?_
 refine yr 2 ⟨[E2, (E1 p1), E9, E10], [], H11⟩ ?_ (h := (by generalize p1 = qp0; cases qp0 <;> kernel_rfl))
 refine yr 1 (S78 p1) ?_ (h := (by generalize p1 = qp0; cases qp0 <;> kernel_rfl))
 refine o_one (S79 p1 x12a) (st_ld (X := X) (S78 p1) 26 V13 0 1 false (vp x12a) (some 19) (by generalize p1 = qp0; cases qp0 <;> kernel_rfl) (by generalize p1 = qp0; cases qp0 <;> kernel_rfl) (by generalize p1 = qp0; cases qp0 <;> kernel_rfl) (by generalize p1 = qp0; cases qp0 <;> kernel_rfl) (by generalize p1 = qp0; cases qp0 <;> kernel_rfl) (by generalize p1 = qp0; generalize x12a = qp1; cases qp0 <;> cases qp1 <;> kernel_rfl)) ?_
 refine o_one ⟨[E2, (E1 p1), E9, E10, E11, (19, vp x12a), (20, vN)], [], H15⟩ (yc (some 20) false false (S79 p1 x12a) (ok_emit_Code_Drop H11 c14) (hr := (by generalize p1 = qp0; generalize x12a = qp1; cases qp0 <;> cases qp1 <;> kernel_rfl)) (hs := (by generalize p1 = qp0; generalize x12a = qp1; cases qp0 <;> cases qp1 <;> kernel_rfl))) ?_
 exact ye
 refine w_seq ?_
 obtain ⟨⟨x16a, x16b, ⟨x16c, x16d, x16e, x16f⟩⟩, V17, hF⟩ := bind1_inv hF
 replace V17 := hgetT_inv V17
 let S81 : Ptr → Ptr → St := fun z0 z1 => ⟨[E2, (E1 z0), E12, E13, E14, (24, vp z1)], [], H15⟩
 obtain ⟨H20, r18, c19, hF⟩ := bind2_inv hF
 let S82 : Ptr → St := fun z0 => ⟨[E2, (E1 z0), E15, E16, E17], [], H20⟩
 refine w_regO ⟨[E2, (E1 p1)], [], H20⟩ ?_ ?_
 refine yr 2 ⟨[E2, (E1 p1), E12, E13], [], H15⟩ ?_ (h := (by generalize p1 = qp0; cases qp0 <;> kernel_rfl))
 refine yr 1 (S80 p1) ?_ (h := (by generalize p1 = qp0; cases qp0 <;> kernel_rfl))
 refine o_one (S81 p1 x16a) (st_ld (X := X) (S80 p1) 26 V17 0 1 false (vp x16a) (some 24) (by generalize p1 = qp0; cases qp0 <;> kernel_rfl) (by generalize p1 = qp0; cases qp0 <;> kernel_rfl) (by generalize p1 = qp0; cases qp0 <;> kernel_rfl) (by generalize p1 = qp0; cases qp0 <;> kernel_rfl) (by generalize p1 = qp0; cases qp0 <;> kernel_rfl) (by generalize p1 = qp0; generalize x16a = qp1; cases qp0 <;> cases qp1 <;> kernel_rfl)) ?_
 refine o_one ⟨[E2, (E1 p1), E12, E13, E14, (24, vp x16a), (25, vi r18)], [], H20⟩ (yc (some 25) false false (S81 p1 x16a) (ok_emit_Code_Most H15 c19) (hr := (by generalize p1 = qp0; generalize x16a = qp1; cases qp0 <;> cases qp1 <;> kernel_rfl)) (hs := (by generalize p1 = qp0; generalize x16a = qp1; cases qp0 <;> cases qp1 <;> kernel_rfl))) ?_
 exact ye
 refine w_seq ?_
 obtain ⟨⟨x21a, x21b, ⟨x21c, x21d, x21e, x21f⟩⟩, V22, hF⟩ := bind1_inv hF
 replace V22 := hgetT_inv V22
 let S83 : Ptr → Ptr → St := fun z0 z1 => ⟨[E2, (E1 z0), E15, E16, E17, (29, vp z1)], [], H20⟩
 obtain ⟨H25, r23, c24, hF⟩ := bind2_inv hF
 let S84 : Ptr → St := fun z0 => ⟨[E2, (E1 z0), E18, (E19 z0), (E20 z0), E21, E22], [], H25⟩
 refine w_regO ⟨[E2, (E1 p1)], [], H25⟩ ?_ ?_
 refine yr 2 ⟨[E2, (E1 p1), E15, E16], [], H20⟩ ?_ (h := (by generalize p1 = qp0; cases qp0 <;> kernel_rfl))
 refine yr 1 (S82 p1) ?_ (h := (by generalize p1 = qp0; cases qp0 <;> kernel_rfl))
 refine o_one (S83 p1 x21a) (st_ld (X := X) (S82 p1) 26 V22 0 1 false (vp x21a) (some 29) (by generalize p1 = qp0; cases qp0 <;> kernel_rfl) (by generalize p1 = qp0; cases qp0 <;> kernel_rfl) (by generalize p1 = qp0; cases qp0 <;> kernel_rfl) (by generalize p1 = qp0; cases qp0 <;> kernel_rfl) (by generalize p1 = qp0; cases qp0 <;> kernel_rfl) (by generalize p1 = qp0; generalize x21a = qp1; cases qp0 <;> cases qp1 <;> kernel_rfl)) ?_
 refine o_one ⟨[E2, (E1 p1), E15, E16, E17, (29, vp x21a), (30, vi r23)], [], H25⟩ (yc (some 30) false false (S83 p1 x21a) (ok_emit_Code_Sign H20 c24) (hr := (by generalize p1 = qp0; generalize x21a = qp1; cases qp0 <;> cases qp1 <;> kernel_rfl)) (hs := (by generalize p1 = qp0; generalize x21a = qp1; cases qp0 <;> cases qp1 <;> kernel_rfl))) ?_
 exact ye
 refine w_seq ?_
 obtain ⟨⟨x26a, x26b, ⟨x26c, x26d, x26e, x26f⟩⟩, V27, hF⟩ := bind1_inv hF
 replace V27 := hgetT_inv V27
 let E27 : Ptr → EN := fun z0 => (40, vp z0)
 obtain ⟨H28, h29, hF⟩ := bnd_inv hF
 let S85 : St := ⟨[E2, E23, E24, E25, E26], [], H28⟩
 let S86 : Ptr → St := fun z0 => ⟨[E2, E23, E24, E25, E26, (E27 z0)], [], H28⟩
 have V30 : hget H28 i1 o2 6 = some (o_item_Gen (T_item_Gen.mk x26a x26b (T_item_Proc.mk 0 0 ([] : List Int) p1))) := by rw [← h29]; exact hset_get V27 rfl
 refine w_regO ⟨[E2], [], H28⟩ ?_ ?_
 refine yr 4 ⟨[E2, (E1 p1), E18, (E19 p1), (E20 p1), E21], [], H25⟩ ?_ (h := (by generalize p1 = qp0; cases qp0 <;> kernel_rfl))
 refine yr 1 (S84 p1) ?_ (h := (by generalize p1 = qp0; cases qp0 <;> kernel_rfl))
 refine o_one ⟨[E2, (E1 p1), E18, (E19 p1), (E20 p1), E21, E22], [], (hset H25 i1 o2 [(.top, (Ptr.av x26a)), (.top, .int .i64 x26b), (.top, .int .i64 0), (.top, .int .i64 0), ((.own 0), .sl 1 (List.map (eI .i64) ([] : List Int))), (.top, (Ptr.av p1))])⟩ (st_st (X := X) (lc := []) (h2 := (hset H25 i1 o2 [(.top, (Ptr.av x26a)), (.top, .int .i64 x26b), (.top, .int .i64 0), (.top, .int .i64 0), ((.own 0), .sl 1 (List.map (eI .i64) ([] : List Int))), (.top, (Ptr.av p1))])) (S84 p1) 30 V27 2 4 (.agg [(.top, .int .i64 0), (.top, .int .i64 0), ((.own 0), .sl 1 (List.map (eI .i64) ([] : List Int))), (.top, (Ptr.av p1))]) (by generalize p1 = qp0; generalize x26a = qp1; cases qp0 <;> cases qp1 <;> kernel_rfl) (by generalize p1 = qp0; generalize x26a = qp1; cases qp0 <;> cases qp1 <;> kernel_rfl) (by generalize p1 = qp0; generalize x26a = qp1; cases qp0 <;> cases qp1 <;> kernel_rfl) (by generalize p1 = qp0; generalize x26a = qp1; cases qp0 <;> cases qp1 <;> kernel_rfl) (by generalize p1 = qp0; generalize x26a = qp1; cases qp0 <;> cases qp1 <;> kernel_rfl) (by generalize p1 = qp0; generalize x26a = qp1; cases qp0 <;> cases qp1 <;> kernel_rfl) (hset_sub0 V27 (Nat.le_of_ble_eq_true rfl)) (by generalize p1 = qp0; generalize x26a = qp1; cases qp0 <;> cases qp1 <;> kernel_rfl)) ?_
 refine o_eq (congrArg (fun q => (⟨[E2, (E1 p1), E18, (E19 p1), (E20 p1), E21, E22], [], q⟩ : St)) h29) ?_
 exact ye
 refine w_seq ?_
 obtain ⟨H33, r31, c32, hF⟩ := bind2_inv hF
 let E28 : EN := (41, vi r31)
 let S87 : Ptr → St := fun z0 => ⟨[E2, E23, E24, E25, E26, (E27 z0), E28, E29, E30, E31], [], H33⟩
 obtain ⟨⟨x34a, x34b, ⟨x34c, x34d, x34e, x34f⟩⟩, V35, hF⟩ := bind1_inv hF
 replace V35 := hgetT_inv V35
 obtain ⟨H36, h37, hF⟩ := bnd_inv hF
 let S88 : St := ⟨[E2, E32, E33, E34], [], H36⟩
 let S89 : Ptr → St := fun z0 => ⟨[E2, E32, E33, E34, (48, vp z0)], [], H36⟩
 have V38 : hget H36 i1 o2 6 = some (o_item_Gen (T_item_Gen.mk x34a x34b (T_item_Proc.mk r31 x34d x34e x34f))) := by rw [← h37]; exact hset_get V35 rfl
 refine w_regO ⟨[E2], [], H36⟩ ?_ ?_
 refine yr 4 S85 ?_
 refine o_one (S86 x26a) (yd (X := X) S85 26 V30 0 1 false (vp x26a) (some 40) (hs := (by generalize x26a = qp0; cases qp0 <;> kernel_rfl))) ?_
 refine o_one ⟨[E2, E23, E24, E25, E26, (E27 x26a), E28], [], H33⟩ (yc (some 41) false false (S86 x26a) (ok_emit_Code_Sign H28 c32) (hr := (by generalize x26a = qp0; cases qp0 <;> kernel_rfl)) (hs := (by generalize x26a = qp0; cases qp0 <;> kernel_rfl))) ?_
 refine yr 1 ⟨[E2, E23, E24, E25, E26, (E27 x26a), E28, E29], [], H33⟩ ?_ (h := (by generalize x26a = qp0; cases qp0 <;> kernel_rfl))
 refine yr 2 (S87 x26a) ?_ (h := (by generalize x26a = qp0; cases qp0 <;> kernel_rfl))
 refine o_one ⟨[E2, E23, E24, E25, E26, (E27 x26a), E28, E29, E30, E31], [], (hset H33 i1 o2 [(.top, (Ptr.av x34a)), (.top, .int .i64 x34b), (.top, .int .i64 r31), (.top, .int .i64 x34d), ((.own 0), .sl 1 (List.map (eI .i64) x34e)), (.top, (Ptr.av x34f))])⟩ (st_st (X := X) (lc := []) (h2 := (hset H33 i1 o2 [(.top, (Ptr.av x34a)), (.top, .int .i64 x34b), (.top, .int .i64 r31), (.top, .int .i64 x34d), ((.own 0), .sl 1 (List.map (eI .i64) x34e)), (.top, (Ptr.av x34f))])) (S87 x26a) 3 V35 2 1 (vi r31) (by generalize x26a = qp0; generalize x34a = qp1; generalize x34f = qp2; cases qp0 <;> cases qp1 <;> cases qp2 <;> kernel_rfl) (by generalize x26a = qp0; generalize x34a = qp1; generalize x34f = qp2; cases qp0 <;> cases qp1 <;> cases qp2 <;> kernel_rfl) (by generalize x26a = qp0; generalize x34a = qp1; generalize x34f = qp2; cases qp0 <;> cases qp1 <;> cases qp2 <;> kernel_rfl) (by generalize x26a = qp0; generalize x34a = qp1; generalize x34f = qp2; cases qp0 <;> cases qp1 <;> cases qp2 <;> kernel_rfl) (by generalize x26a = qp0; generalize x34a = qp1; generalize x34f = qp2; cases qp0 <;> cases qp1 <;> cases qp2 <;> kernel_rfl) (by generalize x26a = qp0; generalize x34a = qp1; generalize x34f = qp2; cases qp0 <;> cases qp1 <;> cases qp2 <;> kernel_rfl) (hset_sub0 V35 (Nat.le_of_ble_eq_true rfl)) (by generalize x26a = qp0; generalize x34a = qp1; generalize x34f = qp2; cases qp0 <;> cases qp1 <;> cases qp2 <;> kernel_rfl)) ?_
 refine o_eq (congrArg (fun q => (⟨[E2, E23, E24, E25, E26, (E27 x26a), E28, E29, E30, E31], [], q⟩ : St)) h37) ?_
 exact ye
 refine w_seq ?_
 obtain ⟨H41, r39, c40, hF⟩ := bind2_inv hF
 let S90 : St := ⟨[E2, E35, E36, E37, E38], [], H41⟩
 refine w_regO ⟨[E2], [], H41⟩ ?_ ?_
 refine yr 3 S88 ?_
 refine o_one (S89 x34a) (yd (X := X) S88 26 V38 0 1 false (vp x34a) (some 48) (hs := (by generalize x34a = qp0; cases qp0 <;> kernel_rfl))) ?_
 refine o_one ⟨[E2, E32, E33, E34, (48, vp x34a), (49, vi r39)], [], H41⟩ (yc (some 49) false false (S89 x34a) (ok_emit_Code_Reg H36 c40) (hr := (by generalize x34a = qp0; cases qp0 <;> kernel_rfl)) (hs := (by generalize x34a = qp0; cases qp0 <;> kernel_rfl))) ?_
 exact ye
 refine w_seq ?_
 obtain ⟨⟨x42a, x42b, ⟨x42c, x42d, x42e, x42f⟩⟩, V43, hF⟩ := bind1_inv hF
 replace V43 := hgetT_inv V43
 let E39 : Ptr → EN := fun z0 => (54, vp z0)
 let S91 : Ptr → St := fun z0 => ⟨[E2, E35, E36, E37, E38, (E39 z0)], [], H41⟩
 obtain ⟨H46, r44, c45, hF⟩ := bind2_inv hF
 let E40 : EN := (55, vi r44)
 let S92 : Ptr → St := fun z0 => ⟨[E2, E35, E36, E37, E38, (E39 z0), E40, E41, E42, E43], [], H46⟩
 obtain ⟨⟨x47a, x47b, ⟨x47c, x47d, x47e, x47f⟩⟩, V48, hF⟩ := bind1_inv hF
 replace V48 := hgetT_inv V48
 obtain ⟨H49, h50, hF⟩ := bnd_inv hF
 let S93 : St := ⟨[E2, E44, E45, E46], [], H49⟩
 let S94 : Ptr → St := fun z0 => ⟨[E2, E44, E45, E46, (62, vp z0)], [], H49⟩
 have V51 : hget H49 i1 o2 6 = some (o_item_Gen (T_item_Gen.mk x47a x47b (T_item_Proc.mk x47c r44 x47e x47f))) := by rw [← h50]; exact hset_get V48 rfl
 refine w_regO ⟨[E2], [], H49⟩ ?_ ?_
 refine yr 3 ⟨[E2, E35, E36, E37], [], H41⟩ ?_
 refine yr 1 S90 ?_
 refine o_one (S91 x42a) (yd (X := X) S90 26 V43 0 1 false (vp x42a) (some 54) (hs := (by generalize x42a = qp0; cases qp0 <;> kernel_rfl))) ?_
 refine o_one ⟨[E2, E35, E36, E37, E38, (E39 x42a), E40], [], H46⟩ (yc (some 55) false false (S91 x42a) (ok_emit_Code_Sign H41 c45) (hr := (by generalize x42a = qp0; cases qp0 <;> kernel_rfl)) (hs := (by generalize x42a = qp0; cases qp0 <;> kernel_rfl))) ?_
 refine yr 1 ⟨[E2, E35, E36, E37, E38, (E39 x42a), E40, E41], [], H46⟩ ?_ (h := (by generalize x42a = qp0; cases qp0 <;> kernel_rfl))
 refine yr 2 (S92 x42a) ?_ (h := (by generalize x42a = qp0; cases qp0 <;> kernel_rfl))
 refine o_one ⟨[E2, E35, E36, E37, E38, (E39 x42a), E40, E41, E42, E43], [], (hset H46 i1 o2 [(.top, (Ptr.av x47a)), (.top, .int .i64 x47b), (.top, .int .i64 x47c), (.top, .int .i64 r44), ((.own 0), .sl 1 (List.map (eI .i64) x47e)), (.top, (Ptr.av x47f))])⟩ (st_st (X := X) (lc := []) (h2 := (hset H46 i1 o2 [(.top, (Ptr.av x47a)), (.top, .int .i64 x47b), (.top, .int .i64 x47c), (.top, .int .i64 r44), ((.own 0), .sl 1 (List.map (eI .i64) x47e)), (.top, (Ptr.av x47f))])) (S92 x42a) 3 V48 3 1 (vi r44) (by generalize x42a = qp0; generalize x47a = qp1; generalize x47f = qp2; cases qp0 <;> cases qp1 <;> cases qp2 <;> kernel_rfl) (by generalize x42a = qp0; generalize x47a = qp1; generalize x47f = qp2; cases qp0 <;> cases qp1 <;> cases qp2 <;> kernel_rfl) (by generalize x42a = qp0; generalize x47a = qp1; generalize x47f = qp2; cases qp0 <;> cases qp1 <;> cases qp2 <;> kernel_rfl) (by generalize x42a = qp0; generalize x47a = qp1; generalize x47f = qp2; cases qp0 <;> cases qp1 <;> cases qp2 <;> kernel_rfl) (by generalize x42a = qp0; generalize x47a = qp1; generalize x47f = qp2; cases qp0 <;> cases qp1 <;> cases qp2 <;> kernel_rfl) (by generalize x42a = qp0; generalize x47a = qp1; generalize x47f = qp2; cases qp0 <;> cases qp1 <;> cases qp2 <;> kernel_rfl) (hset_sub0 V48 (Nat.le_of_ble_eq_true rfl)) (by generalize x42a = qp0; generalize x47a = qp1; generalize x47f = qp2; cases qp0 <;> cases qp1 <;> cases qp2 <;> kernel_rfl)) ?_
 refine o_eq (congrArg (fun q => (⟨[E2, E35, E36, E37, E38, (E39 x42a), E40, E41, E42, E43], [], q⟩ : St)) h50) ?_
 exact ye
 refine w_seq ?_
 obtain ⟨H53, c52, hF⟩ := bind1_inv hF
 let S95 : St := ⟨[E2, E47, E48, E49], [], H53⟩
 refine w_regO ⟨[E2], [], H53⟩ ?_ ?_
 refine yr 3 S93 ?_
 refine o_one (S94 x47a) (yd (X := X) S93 26 V51 0 1 false (vp x47a) (some 62) (hs := (by generalize x47a = qp0; cases qp0 <;> kernel_rfl))) ?_
 refine o_one ⟨[E2, E44, E45, E46, (62, vp x47a), (63, vN)], [], H53⟩ (yc (some 63) false false (S94 x47a) (ok_emit_Code_Number H49 c52) (hr := (by generalize x47a = qp0; cases qp0 <;> kernel_rfl)) (hs := (by generalize x47a = qp0; cases qp0 <;> kernel_rfl))) ?_
 exact ye
 refine w_seq ?_
 obtain ⟨⟨x54a, x54b, ⟨x54c, x54d, x54e, x54f⟩⟩, V55, hF⟩ := bind1_inv hF
 replace V55 := hgetT_inv V55
 let S96 : Ptr → St := fun z0 => ⟨[E2, E47, E48, E49, (67, vp z0)], [], H53⟩
 obtain ⟨H58, r56, c57, hF⟩ := bind2_inv hF
 let S97 : St := ⟨[E2, E51, E52, E53], [], H58⟩
 refine w_regO ⟨[E2], [], H58⟩ ?_ ?_
 refine yr 2 ⟨[E2, E47, E48], [], H53⟩ ?_
 refine yr 1 S95 ?_
 refine o_one (S96 x54a) (yd (X := X) S95 26 V55 0 1 false (vp x54a) (some 67) (hs := (by generalize x54a = qp0; cases qp0 <;> kernel_rfl))) ?_
 refine o_one ⟨[E2, E47, E48, E49, (67, vp x54a), (68, vi r56)], [], H58⟩ (yc (some 68) false false (S96 x54a) (ok_emit_Code_Sign H53 c57) (hr := (by generalize x54a = qp0; cases qp0 <;> kernel_rfl)) (hs := (by generalize x54a = qp0; cases qp0 <;> kernel_rfl))) ?_
 exact ye
 refine w_seq ?_
 obtain ⟨⟨x59a, x59b, ⟨x59c, x59d, x59e, x59f⟩⟩, V60, hF⟩ := bind1_inv hF
 replace V60 := hgetT_inv V60
 let E54 : Ptr → EN := fun z0 => (72, vp z0)
 let S98 : Ptr → St := fun z0 => ⟨[E2, E51, E52, E53, (E54 z0)], [], H58⟩
 obtain ⟨H63, r61, c62, hF⟩ := bind2_inv hF
 let E50 : EN := (4, vi r61)
 let S99 : St := ⟨[E2, E50, E56, E57, E58], [], H63⟩
 refine w_regO ⟨[E2, E50], [], H63⟩ ?_ ?_
 refine yr 2 ⟨[E2, E51, E52], [], H58⟩ ?_
 refine yr 1 S97 ?_
 refine o_one (S98 x59a) (yd (X := X) S97 26 V60 0 1 false (vp x59a) (some 72) (hs := (by generalize x59a = qp0; cases qp0 <;> kernel_rfl))) ?_
 refine o_one ⟨[E2, E51, E52, E53, (E54 x59a), (73, vi r61)], [], H63⟩ (yc (some 73) false false (S98 x59a) (ok_emit_Code_Three H58 c62) (hr := (by generalize x59a = qp0; cases qp0 <;> kernel_rfl)) (hs := (by generalize x59a = qp0; cases qp0 <;> kernel_rfl))) ?_
 refine yr 1 ⟨[E2, E50, E51, E52, E53, (E54 x59a), (73, vi r61)], [], H63⟩ ?_ (h := (by generalize x59a = qp0; cases qp0 <;> kernel_rfl))
 exact ye
 refine w_seq ?_
 obtain ⟨⟨x64a, x64b, ⟨x64c, x64d, x64e, x64f⟩⟩, V65, hF⟩ := bind1_inv hF
 replace V65 := hgetT_inv V65
 let E59 : Ptr → EN := fun z0 => (77, vp z0)
 let S100 : Ptr → St := fun z0 => ⟨[E2, E50, E56, E57, E58, (E59 z0)], [], H63⟩
 obtain ⟨H68, r66, c67, hF⟩ := bind2_inv hF
 let E55 : EN := (5, vi r66)
 let S101 : St := ⟨[E2, E50, E55, E60, E61, E62], [], H68⟩
 refine w_regO ⟨[E2, E50, E55], [], H68⟩ ?_ ?_
 refine yr 2 ⟨[E2, E50, E56, E57], [], H63⟩ ?_
 refine yr 1 S99 ?_
 refine o_one (S100 x64a) (yd (X := X) S99 26 V65 0 1 false (vp x64a) (some 77) (hs := (by generalize x64a = qp0; cases qp0 <;> kernel_rfl))) ?_
 refine o_one ⟨[E2, E50, E56, E57, E58, (E59 x64a), (78, vi r66)], [], H68⟩ (yc (some 78) false false (S100 x64a) (ok_emit_Code_Jump H63 c67) (hr := (by generalize x64a = qp0; cases qp0 <;> kernel_rfl)) (hs := (by generalize x64a = qp0; cases qp0 <;> kernel_rfl))) ?_
 refine yr 1 ⟨[E2, E50, E55, E56, E57, E58, (E59 x64a), (78, vi r66)], [], H68⟩ ?_ (h := (by generalize x64a = qp0; cases qp0 <;> kernel_rfl))
 exact ye
 refine w_seq ?_
 obtain ⟨⟨x69a, x69b, ⟨x69c, x69d, x69e, x69f⟩⟩, V70, hF⟩ := bind1_inv hF
 replace V70 := hgetT_inv V70
 let S102 : Ptr → St := fun z0 => ⟨[E2, E50, E55, E60, E61, E62, (82, vp z0)], [], H68⟩
 obtain ⟨H73, r71, c72, hF⟩ := bind2_inv hF
 let S103 : St := ⟨[E2, E50, E55, E63, E64, E65], [], H73⟩
 refine w_regO ⟨[E2, E50, E55], [], H73⟩ ?_ ?_
 refine yr 2 ⟨[E2, E50, E55, E60, E61], [], H68⟩ ?_
 refine yr 1 S101 ?_
 refine o_one (S102 x69a) (yd (X := X) S101 26 V70 0 1 false (vp x69a) (some 82) (hs := (by generalize x69a = qp0; cases qp0 <;> kernel_rfl))) ?_
 refine o_one ⟨[E2, E50, E55, E60, E61, E62, (82, vp x69a), (83, vi r71)], [], H73⟩ (yc (some 83) false false (S102 x69a) (ok_emit_Code_Sign H68 c72) (hr := (by generalize x69a = qp0; cases qp0 <;> kernel_rfl)) (hs := (by generalize x69a = qp0; cases qp0 <;> kernel_rfl))) ?_
 exact ye
 refine w_seq ?_
 obtain ⟨⟨x74a, x74b, ⟨x74c, x74d, x74e, x74f⟩⟩, V75, hF⟩ := bind1_inv hF
 replace V75 := hgetT_inv V75
 let S104 : Ptr → St := fun z0 => ⟨[E2, E50, E55, E63, E64, E65, (87, vp z0)], [], H73⟩
 obtain ⟨H78, r76, c77, hF⟩ := bind2_inv hF
 let S105 : St := ⟨[E2, E50, E55, E66, E67, E68], [], H78⟩
 refine w_regO ⟨[E2, E50, E55], [], H78⟩ ?_ ?_
 refine yr 2 ⟨[E2, E50, E55, E63, E64], [], H73⟩ ?_
 refine yr 1 S103 ?_
 refine o_one (S104 x74a) (yd (X := X) S103 26 V75 0 1 false (vp x74a) (some 87) (hs := (by generalize x74a = qp0; cases qp0 <;> kernel_rfl))) ?_
 refine o_one ⟨[E2, E50, E55, E63, E64, E65, (87, vp x74a), (88, vi r76)], [], H78⟩ (yc (some 88) false false (S104 x74a) (ok_emit_Code_Sign H73 c77) (hr := (by generalize x74a = qp0; cases qp0 <;> kernel_rfl)) (hs := (by generalize x74a = qp0; cases qp0 <;> kernel_rfl))) ?_
 exact ye
 refine w_seq ?_
 obtain ⟨⟨x79a, x79b, ⟨x79c, x79d, x79e, x79f⟩⟩, V80, hF⟩ := bind1_inv hF
 replace V80 := hgetT_inv V80
 let E69 : Ptr → EN := fun z0 => (92, vp z0)
 let S106 : Ptr → St := fun z0 => ⟨[E2, E50, E55, E66, E67, E68, (E69 z0), (93, vi r61)], [], H78⟩
 obtain ⟨H82, c81, hF⟩ := bind1_inv hF
 let S107 : St := ⟨[E2, E55, E70, E71, E72], [], H82⟩
 refine w_regO ⟨[E2, E55], [], H82⟩ ?_ ?_
 refine yr 2 ⟨[E2, E50, E55, E66, E67], [], H78⟩ ?_
 refine yr 1 S105 ?_
 refine o_one ⟨[E2, E50, E55, E66, E67, E68, (E69 x79a)], [], H78⟩ (yd (X := X) S105 26 V80 0 1 false (vp x79a) (some 92) (hs := (by generalize x79a = qp0; cases qp0 <;> kernel_rfl))) ?_
 refine yr 1 (S106 x79a) ?_ (h := (by generalize x79a = qp0; cases qp0 <;> kernel_rfl))
 refine o_one ⟨[E2, E50, E55, E66, E67, E68, (E69 x79a), (93, vi r61), (94, vN)], [], H82⟩ (yc (some 94) false false (S106 x79a) (ok_emit_Code_Back H78 c81) (hr := (by generalize x79a = qp0; cases qp0 <;> kernel_rfl)) (hs := (by generalize x79a = qp0; cases qp0 <;> kernel_rfl))) ?_
 exact ye
 obtain ⟨⟨x83a, x83b, ⟨x83c, x83d, x83e, x83f⟩⟩, V84, hF⟩ := bind1_inv hF
 replace V84 := hgetT_inv V84
 let E73 : Ptr → EN := fun z0 => (98, vp z0)
 let S108 : Ptr → St := fun z0 => ⟨[E2, E55, E70, E71, E72, (E73 z0), (99, vi r66)], [], H82⟩
 obtain ⟨H86, c85, hF⟩ := bind1_inv hF
 refine w_regO ⟨[], [], H86⟩ ?_ ?_
 refine yr 2 ⟨[E2, E55, E70, E71], [], H82⟩ ?_
 refine yr 1 S107 ?_
 refine o_one ⟨[E2, E55, E70, E71, E72, (E73 x83a)], [], H82⟩ (yd (X := X) S107 26 V84 0 1 false (vp x83a) (some 98) (hs := (by generalize x83a = qp0; cases qp0 <;> kernel_rfl))) ?_
 refine yr 1 (S108 x83a) ?_ (h := (by generalize x83a = qp0; cases qp0 <;> kernel_rfl))
 refine o_one ⟨[E2, E55, E70, E71, E72, (E73 x83a), (99, vi r66), (100, vN)], [], H86⟩ (yc (some 100) false false (S108 x83a) (ok_emit_Code_Land H82 c85) (hr := (by generalize x83a = qp0; cases qp0 <;> kernel_rfl)) (hs := (by generalize x83a = qp0; cases qp0 <;> kernel_rfl))) ?_
 exact ye
 obtain e0 := some1_inv hF
 subst e0
 exact yi (vN)
noncomputable def frame_Gone  (p0 : Int) : Option (Int) :=
  some (IntKind.wrap .i64 (4 + (IntKind.wrap .i64 (4 * (if (if 16 < p0 then 16 else p0) > 0 then (if 16 < p0 then 16 else p0) else 0)))))
theorem ok_frame_Gone (H : Heap) {p0 : Int} {ra : Int} (hF : frame_Gone p0 = some ra) : evS X 83 [.one .top (.int .i64 p0)] H = some (.one .top (.int .i64 ra), H) := by
 refine yf Try.func83 true ⟨[(0, vi p0)], [], H⟩ ?_
 unfold frame_Gone at hF
 refine ysg ⟨[(0, vi p0)], [], H⟩ ?_
 refine ysg ⟨[(2, vi (IntKind.wrap .i64 (4 + (IntKind.wrap .i64 (4 * (if (if 16 < p0 then 16 else p0) > 0 then (if 16 < p0 then 16 else p0) else 0))))))], [], H⟩ ?_
 refine w_ret ?_
 obtain e0 := some1_inv hF
 subst e0
 exact yp (vi (IntKind.wrap .i64 (4 + (IntKind.wrap .i64 (4 * (if (if 16 < p0 then 16 else p0) > 0 then (if 16 < p0 then 16 else p0) else 0))))))
noncomputable def item_Gen_Leave (H : Heap) (p0 : Ptr) (p1 : Int) : Option (Heap) :=
  (p0).bnd fun i1 o2 =>
  bind1 (get_item_Gen H i1 o2) fun x4 =>
  bind2 (emit_Code_Sign H x4.Code_ 5 15 13 0) fun H8 r6 =>
  bind1 (get_item_Gen H8 i1 o2) fun x9 =>
  bind2 (emit_Code_Sign H8 x9.Code_ 18 13 15 0) fun H13 r11 =>
  bind1 (get_item_Gen H13 i1 o2) fun x14 =>
  bind2 (emit_Code_Sign H13 x14.Code_ 18 14 15 4) fun H18 r16 =>
  bind1 (get_item_Gen H18 i1 o2) fun x19 =>
  bind1 (frame_Gone p1) fun r21 =>
  bind2 (emit_Code_Sign H18 x19.Code_ 5 15 15 (IntKind.wrap .i64 (8 + r21))) fun H25 r23 =>
  bind1 (get_item_Gen H25 i1 o2) fun x26 =>
  bind2 (emit_Code_Reg H25 x26.Code_ 24 14) fun H30 r28 =>
  some H30
theorem ok_item_Gen_Leave (H : Heap) {p0 : Ptr} {p1 : Int} {Hr : Heap} (hF : item_Gen_Leave H p0 p1 = some Hr) : evS X 46 [.one .top (Ptr.av p0), .one .top (.int .i64 p1)] H = some (.tup [], Hr) := by
 let E1 : EN := (1, vi p1)
 let E15 : EN := (23, vi p1)
 refine yf Try.func46 false ⟨[(0, vp p0), E1], [], H⟩ ?_
 unfold item_Gen_Leave at hF
 refine w_seq ?_
 obtain ⟨i1, o2, h3, hF⟩ := pbnd_inv hF
 let E2 : EN := (0, vo i1 o2)
 let E3 : EN := (4, vo i1 o2)
 let E4 : EN := (5, vo i1 o2)
 let E5 : EN := (6, vo i1 o2)
 let E6 : EN := (9, vo i1 o2)
 let E7 : EN := (10, vo i1 o2)
 let E8 : EN := (11, vo i1 o2)
 let E9 : EN := (14, vo i1 o2)
 let E10 : EN := (15, vo i1 o2)
 let E11 : EN := (16, vo i1 o2)
 let E12 : EN := (19, vo i1 o2)
 let E13 : EN := (20, vo i1 o2)
 let E14 : EN := (21, vo i1 o2)
 let E19 : EN := (27, vo i1 o2)
 let E20 : EN := (28, vo i1 o2)
 let E21 : EN := (29, vo i1 o2)
 let S22 : St := ⟨[E2, E1, E3, E4, E5], [], H⟩
 obtain ⟨⟨x4a, x4b, ⟨x4c, x4d, x4e, x4f⟩⟩, V5, hF⟩ := bind1_inv hF
 replace V5 := hgetT_inv V5
 let S23 : Ptr → St := fun z0 => ⟨[E2, E1, E3, E4, E5, (7, vp z0)], [], H⟩
 obtain ⟨H8, r6, c7, hF⟩ := bind2_inv hF
 let S24 : St := ⟨[E2, E1, E6, E7, E8], [], H8⟩
 refine w_regO ⟨[E2, E1], [], H8⟩ ?_ ?_
 refine yr 1 ⟨[(0, vp p0), E1, (4, vp p0)], [], H⟩ ?_ (h := (by generalize p0 = qp0; cases qp0 <;> kernel_rfl))
 refine o_eq (congrArg (fun q => (⟨[(0, vp q), E1, (4, vp q)], [], H⟩ : St)) h3) ?_
 refine yr 1 ⟨[E2, E1, E3, E4], [], H⟩ ?_
 refine yr 1 S22 ?_
 refine o_one (S23 x4a) (yd (X := X) S22 26 V5 0 1 false (vp x4a) (some 7) (hs := (by generalize x4a = qp0; cases qp0 <;> kernel_rfl))) ?_
 refine o_one ⟨[E2, E1, E3, E4, E5, (7, vp x4a), (8, vi r6)], [], H8⟩ (yc (some 8) false false (S23 x4a) (ok_emit_Code_Sign H c7) (hr := (by generalize x4a = qp0; cases qp0 <;> kernel_rfl)) (hs := (by generalize x4a = qp0; cases qp0 <;> kernel_rfl))) ?_
 exact ye
 refine w_seq ?_
 obtain ⟨⟨x9a, x9b, ⟨x9c, x9d, x9e, x9f⟩⟩, V10, hF⟩ := bind1_inv hF
 replace V10 := hgetT_inv V10
 let S25 : Ptr → St := fun z0 => ⟨[E2, E1, E6, E7, E8, (12, vp z0)], [], H8⟩
 obtain ⟨H13, r11, c12, hF⟩ := bind2_inv hF
 let S26 : St := ⟨[E2, E1, E9, E10, E11], [], H13⟩
 refine w_regO ⟨[E2, E1], [], H13⟩ ?_ ?_
 refine yr 2 ⟨[E2, E1, E6, E7], [], H8⟩ ?_
 refine yr 1 S24 ?_
 refine o_one (S25 x9a) (yd (X := X) S24 26 V10 0 1 false (vp x9a) (some 12) (hs := (by generalize x9a = qp0; cases qp0 <;> kernel_rfl))) ?_
 refine o_one ⟨[E2, E1, E6, E7, E8, (12, vp x9a), (13, vi r11)], [], H13⟩ (yc (some 13) false false (S25 x9a) (ok_emit_Code_Sign H8 c12) (hr := (by generalize x9a = qp0; cases qp0 <;> kernel_rfl)) (hs := (by generalize x9a = qp0; cases qp0 <;> kernel_rfl))) ?_
 exact ye
 refine w_seq ?_
 obtain ⟨⟨x14a, x14b, ⟨x14c, x14d, x14e, x14f⟩⟩, V15, hF⟩ := bind1_inv hF
 replace V15 := hgetT_inv V15
 let S27 : Ptr → St := fun z0 => ⟨[E2, E1, E9, E10, E11, (17, vp z0)], [], H13⟩
 obtain ⟨H18, r16, c17, hF⟩ := bind2_inv hF
 let S28 : St := ⟨[E2, E1, E12, E13, E14, E15], [], H18⟩
 refine w_regO ⟨[E2, E1], [], H18⟩ ?_ ?_
 refine yr 2 ⟨[E2, E1, E9, E10], [], H13⟩ ?_
 refine yr 1 S26 ?_
 refine o_one (S27 x14a) (yd (X := X) S26 26 V15 0 1 false (vp x14a) (some 17) (hs := (by generalize x14a = qp0; cases qp0 <;> kernel_rfl))) ?_
 refine o_one ⟨[E2, E1, E9, E10, E11, (17, vp x14a), (18, vi r16)], [], H18⟩ (yc (some 18) false false (S27 x14a) (ok_emit_Code_Sign H13 c17) (hr := (by generalize x14a = qp0; cases qp0 <;> kernel_rfl)) (hs := (by generalize x14a = qp0; cases qp0 <;> kernel_rfl))) ?_
 exact ye
 refine w_seq ?_
 obtain ⟨⟨x19a, x19b, ⟨x19c, x19d, x19e, x19f⟩⟩, V20, hF⟩ := bind1_inv hF
 replace V20 := hgetT_inv V20
 let E16 : Ptr → EN := fun z0 => (22, vp z0)
 let S30 : Ptr → St := fun z0 => ⟨[E2, E1, E12, E13, E14, (E16 z0), E15], [], H18⟩
 obtain ⟨r21, c22, hF⟩ := bind1_inv hF
 let E17 : EN := (24, vi r21)
 let E18 : EN := (25, vi (IntKind.wrap .i64 (8 + r21)))
 let S31 : Ptr → St := fun z0 => ⟨[E2, E1, E12, E13, E14, (E16 z0), E15, E17, E18], [], H18⟩
 let S32 : St := ⟨[E2, E1, E12, E13, E14, E15, E17, E18], [], H18⟩
 obtain ⟨H25, r23, c24, hF⟩ := bind2_inv hF
 let S29 : Ptr → St := fun z0 => ⟨[E2, E1, E12, E13, E14, (E16 z0), E15, E17, E18, (26, vi r23)], [], H25⟩
 let S33 : St := ⟨[E2, E19, E20, E21], [], H25⟩
 refine w_regD (.take 0 (.take 1 (.take 2 (.take 4 (.alt 3 (.last 5 (.take 6 (.last 7 .done))) (.last 5 (.take 6 (.last 3 (.last 7 .done))))))))) (by kernel_rfl) (⟨[E2], [], H25⟩ : St) ?_ ?_
 refine ydk 4 S28 ?_
 refine q_in (S29 x19a) ?_ ?_
 refine q_alt (S30 x19a) (yd (X := X) S28 26 V20 0 1 false (vp x19a) (some 22) (hs := (by generalize x19a = qp0; cases qp0 <;> kernel_rfl))) ?_ ?_
 refine q_last ⟨[E2, E1, E12, E13, E14, (E16 x19a), E15, E17], [], H18⟩ (yc (some 24) true false (S30 x19a) (ok_frame_Gone H18 c22) (hr := (by generalize x19a = qp0; cases qp0 <;> kernel_rfl)) (hs := (by generalize x19a = qp0; cases qp0 <;> kernel_rfl))) ?_
 refine q_take (S31 x19a) (by generalize x19a = qp0; cases qp0 <;> kernel_rfl) ?_
 refine q_last (S29 x19a) (yc (some 26) false false (S31 x19a) (ok_emit_Code_Sign H18 c24) (hr := (by generalize x19a = qp0; cases qp0 <;> kernel_rfl)) (hs := (by generalize x19a = qp0; cases qp0 <;> kernel_rfl))) ?_
 exact yqe
 refine q_last ⟨[E2, E1, E12, E13, E14, E15, E17], [], H18⟩ (yc (some 24) true false S28 (ok_frame_Gone H18 c22)) ?_
 refine yqt S32 ?_
 refine q_last (S31 x19a) (yd (X := X) S32 26 V20 0 1 false (vp x19a) (some 22) (hs := (by generalize x19a = qp0; cases qp0 <;> kernel_rfl))) ?_
 refine q_last (S29 x19a) (yc (some 26) false false (S31 x19a) (ok_emit_Code_Sign H18 c24) (hr := (by generalize x19a = qp0; cases qp0 <;> kernel_rfl)) (hs := (by generalize x19a = qp0; cases qp0 <;> kernel_rfl))) ?_
 exact yqe
 kernel_rfl
 obtain ⟨⟨x26a, x26b, ⟨x26c, x26d, x26e, x26f⟩⟩, V27, hF⟩ := bind1_inv hF
 replace V27 := hgetT_inv V27
 let S34 : Ptr → St := fun z0 => ⟨[E2, E19, E20, E21, (30, vp z0)], [], H25⟩
 obtain ⟨H30, r28, c29, hF⟩ := bind2_inv hF
 refine w_regO ⟨[], [], H30⟩ ?_ ?_
 refine yr 2 ⟨[E2, E19, E20], [], H25⟩ ?_
 refine yr 1 S33 ?_
 refine o_one (S34 x26a) (yd (X := X) S33 26 V27 0 1 false (vp x26a) (some 30) (hs := (by generalize x26a = qp0; cases qp0 <;> kernel_rfl))) ?_
 refine o_one ⟨[E2, E19, E20, E21, (30, vp x26a), (31, vi r28)], [], H30⟩ (yc (some 31) false false (S34 x26a) (ok_emit_Code_Reg H25 c29) (hr := (by generalize x26a = qp0; cases qp0 <;> kernel_rfl)) (hs := (by generalize x26a = qp0; cases qp0 <;> kernel_rfl))) ?_
 exact ye
 obtain e0 := some1_inv hF
 subst e0
 exact yi (vN)
noncomputable def frame_Need  (p0 : Int) (p1 : Int) : Option (Int) :=
  some (IntKind.wrap .i64 ((IntKind.wrap .i64 ((if (if 16384 < p0 then 16384 else p0) > 0 then (if 16384 < p0 then 16384 else p0) else 0) + (IntKind.wrap .i64 (4 * (if (if 16384 < p1 then 16384 else p1) > 0 then (if 16384 < p1 then 16384 else p1) else 0))))) + 64))
theorem ok_frame_Need (H : Heap) {p0 : Int} {p1 : Int} {ra : Int} (hF : frame_Need p0 p1 = some ra) : evS X 85 [.one .top (.int .i64 p0), .one .top (.int .i64 p1)] H = some (.one .top (.int .i64 ra), H) := by
 let S1 : St := ⟨[(0, vi p0), (1, vi p1)], [], H⟩
 refine yf Try.func85 true S1 ?_
 unfold frame_Need at hF
 refine ysg S1 ?_
 refine ysg ⟨[(4, vi (IntKind.wrap .i64 ((IntKind.wrap .i64 ((if (if 16384 < p0 then 16384 else p0) > 0 then (if 16384 < p0 then 16384 else p0) else 0) + (IntKind.wrap .i64 (4 * (if (if 16384 < p1 then 16384 else p1) > 0 then (if 16384 < p1 then 16384 else p1) else 0))))) + 64)))], [], H⟩ ?_
 refine w_ret ?_
 obtain e0 := some1_inv hF
 subst e0
 exact yp (vi (IntKind.wrap .i64 ((IntKind.wrap .i64 ((if (if 16384 < p0 then 16384 else p0) > 0 then (if 16384 < p0 then 16384 else p0) else 0) + (IntKind.wrap .i64 (4 * (if (if 16384 < p1 then 16384 else p1) > 0 then (if 16384 < p1 then 16384 else p1) else 0))))) + 64)))
noncomputable def emit_Code_Patch (H : Heap) (p0 : Ptr) (p1 : Int) (p2 : Int) : Option (Heap) :=
  bind1 (emit_Code_set H p0 p1 p2) fun H2 =>
  some H2
theorem ok_emit_Code_Patch (H : Heap) {p0 : Ptr} {p1 : Int} {p2 : Int} {Hr : Heap} (hF : emit_Code_Patch H p0 p1 p2 = some Hr) : evS X 84 [.one .top (Ptr.av p0), .one .top (.int .i64 p1), .one .top (.int .i64 p2)] H = some (.tup [], Hr) := by
 let S1 : Ptr → St := fun z0 => ⟨[(0, vp z0), (1, vi p1), (2, vi p2), (6, vp z0), (7, vi p1), (8, vi p2)], [], H⟩
 refine yf Try.func84 false ⟨[(0, vp p0), (1, vi p1), (2, vi p2)], [], H⟩ ?_
 unfold emit_Code_Patch at hF
 obtain ⟨H2, c1, hF⟩ := bind1_inv hF
 refine w_regO ⟨[], [], H2⟩ ?_ ?_
 refine yr 3 (S1 p0) ?_ (h := (by generalize p0 = qp0; cases qp0 <;> kernel_rfl))
 refine o_one ⟨[(0, vp p0), (1, vi p1), (2, vi p2), (6, vp p0), (7, vi p1), (8, vi p2), (9, vN)], [], H2⟩ (yc (some 9) false false (S1 p0) (ok_emit_Code_set H c1) (hr := (by generalize p0 = qp0; cases qp0 <;> kernel_rfl)) (hs := (by generalize p0 = qp0; cases qp0 <;> kernel_rfl))) ?_
 exact ye
 obtain e0 := some1_inv hF
 subst e0
 exact yi (vN)
noncomputable def item_Gen_Done_L2 (x18 : T_item_Gen) (i1 : Nat) (o2 : Nat) (j6 : Int) (a20 : Int) (H21 : Heap) : Option ((Int × Heap) ⊕ ((Heap))) :=
  if (decide (a20 < (x18.Proc_.resets_.length : Int))) = true then (bind1 (gi x18.Proc_.resets_ a20) fun x23 =>
  bind1 (get_item_Gen H21 i1 o2) fun x25 =>
  bind1 (emit_Code_Patch H21 x25.Code_ x23 (IntKind.wrap .i64 (0 - j6))) fun H28 =>
  some (Sum.inl ((IntKind.wrap .i64 (a20 + 1)), H28)))
  else (some (Sum.inr H21))
noncomputable def item_Gen_Done_j1 (H : Heap) (x4 : T_item_Gen) (i1 : Nat) (o2 : Nat) (j6 : Int) : Option (Heap) :=
  bind2 (emit_Code_Most H x4.Code_) fun H9 r7 =>
  bind1 (same (get_item_Gen H9 i1 o2) x4) fun (_ : Unit) =>
  bind1 (frame_Need j6 r7) fun r11 =>
  bind1 (emit_Code_Patch H9 x4.Code_ x4.Proc_.need_ (IntKind.wrap .i64 (0 - r11))) fun H14 =>
  bind1 (same (get_item_Gen H14 i1 o2) x4) fun (_ : Unit) =>
  bind1 (emit_Code_Patch H14 x4.Code_ x4.Proc_.size_ (IntKind.wrap .i64 (0 - j6))) fun H17 =>
  bind1 (get_item_Gen H17 i1 o2) fun x18 =>
  bind1 (loopO (fun (x : (Int × Heap)) => item_Gen_Done_L2 x18 i1 o2 j6 x.1 x.2) (0, H17)) (fun H31 =>
  some H31)
noncomputable def item_Gen_Done (H : Heap) (p0 : Ptr) : Option (Heap) :=
  (p0).bnd fun i1 o2 =>
  bind1 (get_item_Gen H i1 o2) fun x4 =>
  if (!x4.Proc_.frame_.isNil) = true then ((x4.Proc_.frame_).bnd fun i33 o34 =>
  bind1 (get_frame_Frame H i33 o34) fun x36 =>
  item_Gen_Done_j1 H x4 i1 o2 x36.Size_)
  else (item_Gen_Done_j1 H x4 i1 o2 0)
theorem ok_item_Gen_Done (H : Heap) {p0 : Ptr} {Hr : Heap} (hF : item_Gen_Done H p0 = some Hr) : evS X 47 [.one .top (Ptr.av p0)] H = some (.tup [], Hr) := by
 let E1 : EN := (2, vi 0)
 let E25 : EN := (36, vN)
 refine yf Try.func47 false ⟨[(0, vp p0)], [], H⟩ ?_
 unfold item_Gen_Done at hF
 refine ysg ⟨[(0, vp p0), E1], [], H⟩ ?_ (h := (by generalize p0 = qp0; cases qp0 <;> kernel_rfl))
 refine w_seq ?_
 refine w_seq ?_
 obtain ⟨i1, o2, h3, hF⟩ := pbnd_inv hF
 let E2 : EN := (0, vo i1 o2)
 let E3 : EN := (5, vo i1 o2)
 let E4 : EN := (6, vo i1 o2)
 let E5 : EN := (7, vo i1 (o2 + 2))
 let E6 : EN := (8, vo i1 (o2 + 5))
 let E8 : EN := (19, vo i1 o2)
 let E9 : EN := (20, vo i1 o2)
 let E10 : EN := (21, vo i1 o2)
 let E11 : EN := (23, vo i1 o2)
 let E12 : EN := (24, vo i1 o2)
 let E13 : EN := (25, vo i1 (o2 + 2))
 let E14 : EN := (26, vo i1 (o2 + 2))
 let E16 : EN := (29, vo i1 o2)
 let E17 : EN := (30, vo i1 o2)
 let E18 : EN := (31, vo i1 o2)
 let E26 : EN := (37, vo i1 o2)
 let E27 : EN := (38, vo i1 o2)
 let E28 : EN := (39, vo i1 o2)
 let E29 : EN := (41, vo i1 o2)
 let E30 : EN := (42, vo i1 o2)
 let E31 : EN := (43, vo i1 (o2 + 2))
 let E32 : EN := (44, vo i1 (o2 + 3))
 let E39 : EN := (49, vo i1 o2)
 let E40 : EN := (50, vo i1 o2)
 let E41 : EN := (51, vo i1 (o2 + 2))
 let E42 : EN := (52, vo i1 (o2 + 4))
 let E46 : EN := (59, vo i1 o2)
 let E47 : EN := (60, vo i1 o2)
 let E48 : EN := (61, vo i1 o2)
 let E51 : EN := (11, vo i1 o2)
 let E52 : EN := (12, vo i1 o2)
 let E53 : EN := (13, vo i1 (o2 + 2))
 let E54 : EN := (14, vo i1 (o2 + 5))
 let S58 : St := ⟨[E2, E1, E3, E4, E5, E6], [], H⟩
 let S90 : St := ⟨[E2, E51, E52, E53, E54], [], H⟩
 obtain ⟨⟨x4a, x4b, ⟨x4c, x4d, x4e, x4f⟩⟩, V5, hF⟩ := bind1_inv hF
 replace V5 := hgetT_inv V5
 let E19 : Ptr → EN := fun z0 => (22, vp z0)
 let E20 : EN := (27, vi x4c)
 let E21 : Ptr → EN := fun z0 => (32, vp z0)
 let E35 : Ptr → EN := fun z0 => (40, vp z0)
 let E36 : EN := (45, vi x4d)
 let S59 : Ptr → St := fun z0 => ⟨[E2, E1, E3, E4, E5, E6, (9, vp z0)], [], H⟩
 refine w_regO ⟨[E2, E1, (10, vb (!x4f.isNil))], [], H⟩ ?_ ?_
 refine yr 1 ⟨[(0, vp p0), E1, (5, vp p0)], [], H⟩ ?_ (h := (by generalize p0 = qp0; cases qp0 <;> kernel_rfl))
 refine o_eq (congrArg (fun q => (⟨[(0, vp q), E1, (5, vp q)], [], H⟩ : St)) h3) ?_
 refine yr 1 ⟨[E2, E1, E3, E4], [], H⟩ ?_
 refine yr 2 S58 ?_
 refine o_one (S59 x4f) (yd (X := X) S58 28 V5 5 1 false (vp x4f) (some 9) (hs := (by generalize x4f = qp0; cases qp0 <;> kernel_rfl))) ?_
 refine o_one ⟨[E2, E1, E3, E4, E5, E6, (9, vp x4f), (10, vb (!x4f.isNil))], [], H⟩ (st_bin (S59 x4f) (nil_neq (P := X.P) (ty := 28) (x := (.tmp 9)) (y := (.const (.pointer none))) (m := .top) (m' := .top) x4f (by generalize x4f = qp0; cases qp0 <;> kernel_rfl) (by generalize x4f = qp0; cases qp0 <;> kernel_rfl)) rfl (some 10) (by generalize x4f = qp0; cases qp0 <;> kernel_rfl) (by generalize x4f = qp0; cases qp0 <;> kernel_rfl)) ?_
 exact ye
 refine w_join (α := (Int)) (fun x => (⟨[E2, (2, vi x)], [], H⟩ : St)) (fun x => item_Gen_Done_j1 H (T_item_Gen.mk x4a x4b (T_item_Proc.mk x4c x4d x4e x4f)) i1 o2 x = some Hr) ?_ ?_
 rintro j6 hF
 replace hF : item_Gen_Done_j1 H (T_item_Gen.mk x4a x4b (T_item_Proc.mk x4c x4d x4e x4f)) i1 o2 j6 = some Hr := hF
 let E7 : EN := (2, vi j6)
 let E15 : EN := (28, vi j6)
 let E33 : EN := (46, vi j6)
 let E34 : EN := (47, vi (IntKind.wrap .i64 (0 - j6)))
 let E50 : EN := (65, vi (IntKind.wrap .i64 (0 - j6)))
 let S60 : St := ⟨[E2, E7, E8, E9, E10, E11, E12, E13, E14, E15, E16, E17, E18], [], H⟩
 let S62 : Ptr → St := fun z0 => ⟨[E2, E7, E8, E9, E10, (E19 z0), E11, E12, E13, E14, E15, E16, E17, E18], [], H⟩
 let S63 : Ptr → St := fun z0 => ⟨[E2, E7, E8, E9, E10, (E19 z0), E11, E12, E13, E14, E20, E15, E16, E17, E18], [], H⟩
 let S64 : Ptr → St := fun z0 => ⟨[E2, E7, E8, E9, E10, (E19 z0), E11, E12, E13, E14, E20, E15, E16, E17, E18, (E21 z0)], [], H⟩
 let S68 : Ptr → St := fun z0 => ⟨[E2, E7, E8, E9, E10, (E19 z0), E11, E12, E13, E14, E15, E16, E17, E18, (E21 z0)], [], H⟩
 let S72 : St := ⟨[E2, E7, E8, E9, E10, E11, E12, E13, E14, E20, E15, E16, E17, E18], [], H⟩
 let S73 : Ptr → St := fun z0 => ⟨[E2, E7, E8, E9, E10, E11, E12, E13, E14, E20, E15, E16, E17, E18, (E21 z0)], [], H⟩
 let S77 : Ptr → St := fun z0 => ⟨[E2, E7, E8, E9, E10, E11, E12, E13, E14, E15, E16, E17, E18, (E21 z0)], [], H⟩
 unfold item_Gen_Done_j1 at hF
 refine w_seq ?_
 obtain ⟨H9, r7, c8, hF⟩ := bind2_inv hF
 let E22 : EN := (33, vi r7)
 let S65 : Ptr → St := fun z0 => ⟨[E2, E7, E8, E9, E10, (E19 z0), E11, E12, E13, E14, E20, E15, E16, E17, E18, (E21 z0), E22], [], H9⟩
 let S69 : Ptr → St := fun z0 => ⟨[E2, E7, E8, E9, E10, (E19 z0), E11, E12, E13, E14, E15, E16, E17, E18, (E21 z0), E22], [], H9⟩
 let S74 : Ptr → St := fun z0 => ⟨[E2, E7, E8, E9, E10, E11, E12, E13, E14, E20, E15, E16, E17, E18, (E21 z0), E22], [], H9⟩
 let S78 : Ptr → St := fun z0 => ⟨[E2, E7, E8, E9, E10, E11, E12, E13, E14, E15, E16, E17, E18, (E21 z0), E22], [], H9⟩
 obtain ⟨_, V10, hF⟩ := bind1_inv hF
 replace V10 := hgetT_inv (same_inv V10)
 obtain ⟨r11, c12, hF⟩ := bind1_inv hF
 let E23 : EN := (34, vi r11)
 let E24 : EN := (35, vi (IntKind.wrap .i64 (0 - r11)))
 let S66 : Ptr → St := fun z0 => ⟨[E2, E7, E8, E9, E10, (E19 z0), E11, E12, E13, E14, E20, E15, E16, E17, E18, (E21 z0), E22, E23], [], H9⟩
 let S67 : Ptr → St := fun z0 => ⟨[E2, E7, E8, E9, E10, (E19 z0), E11, E12, E13, E14, E20, E15, E16, E17, E18, (E21 z0), E22, E23, E24], [], H9⟩
 let S70 : Ptr → St := fun z0 => ⟨[E2, E7, E8, E9, E10, (E19 z0), E11, E12, E13, E14, E15, E16, E17, E18, (E21 z0), E22, E23], [], H9⟩
 let S71 : Ptr → St := fun z0 => ⟨[E2, E7, E8, E9, E10, (E19 z0), E11, E12, E13, E14, E15, E16, E17, E18, (E21 z0), E22, E23, E24], [], H9⟩
 let S75 : Ptr → St := fun z0 => ⟨[E2, E7, E8, E9, E10, E11, E12, E13, E14, E20, E15, E16, E17, E18, (E21 z0), E22, E23], [], H9⟩
 let S76 : Ptr → St := fun z0 => ⟨[E2, E7, E8, E9, E10, E11, E12, E13, E14, E20, E15, E16, E17, E18, (E21 z0), E22, E23, E24], [], H9⟩
 let S79 : Ptr → St := fun z0 => ⟨[E2, E7, E8, E9, E10, E11, E12, E13, E14, E15, E16, E17, E18, (E21 z0), E22, E23, E24], [], H9⟩
 obtain ⟨H14, c13, hF⟩ := bind1_inv hF
 let S61 : Ptr → St := fun z0 => ⟨[E2, E7, E8, E9, E10, (E19 z0), E11, E12, E13, E14, E20, E15, E16, E17, E18, (E21 z0), E22, E23, E24, E25], [], H14⟩
 let S80 : St := ⟨[E2, E7, E26, E27, E28, E29, E30, E31, E32, E33, E34], [], H14⟩
 let S82 : Ptr → St := fun z0 => ⟨[E2, E7, E26, E27, E28, (E35 z0), E29, E30, E31, E32, E33, E34], [], H14⟩
 let S83 : Ptr → St := fun z0 => ⟨[E2, E7, E26, E27, E28, (E35 z0), E29, E30, E31, E32, E36, E33, E34], [], H14⟩
 let S84 : St := ⟨[E2, E7, E26, E27, E28, E29, E30, E31, E32, E36, E33, E34], [], H14⟩
 obtain ⟨_, V15, hF⟩ := bind1_inv hF
 replace V15 := hgetT_inv (same_inv V15)
 let K96 : Sch := .last 17 .done
 let K95 : Sch := .last 15 (.take 16 K96)
 let K94 : Sch := .last 13 (.last 14 K95)
 let K92 : Sch := .alt 8 (.last 14 K95) (.last 14 (.alt 8 K95 (.last 15 (.take 16 (.last 8 K96)))))
 let K93 : Sch := .alt 3 (.last 14 K95) (.last 14 (.alt 3 K95 (.last 15 (.take 16 (.last 3 K96)))))
 refine w_regD (.take 0 (.take 1 (.take 2 (.take 4 (.take 5 (.take 6 (.take 7 (.take 9 (.take 10 (.take 11 (.take 12 (.alt 3 (.alt 8 K94 (.last 13 K92)) (.alt 8 (.alt 3 K94 (.last 13 K93)) (.last 13 (.alt 3 K92 (.alt 8 K93 (.last 14 (.alt 3 (.alt 8 K95 (.last 15 (.take 16 (.last 8 K96)))) (.alt 8 (.alt 3 K95 (.last 15 (.take 16 (.last 3 K96)))) (.last 15 (.take 16 (.alt 3 (.last 8 K96) (.last 8 (.last 3 K96)))))))))))))))))))))))) (by kernel_rfl) (⟨[E2, E7], [], H14⟩ : St) ?_ ?_
 refine ydk 11 S60 ?_
 refine q_in (S61 x4a) ?_ ?_
 refine q_alt (S62 x4a) (yd (X := X) S60 26 V5 0 1 false (vp x4a) (some 22) (hs := (by generalize x4a = qp0; cases qp0 <;> kernel_rfl))) ?_ ?_
 refine q_alt (S63 x4a) (yd (X := X) (S62 x4a) 3 V5 2 1 false (vi x4c) (some 27) (hs := (by generalize x4a = qp0; cases qp0 <;> kernel_rfl))) ?_ ?_
 refine q_last (S64 x4a) (yd (X := X) (S63 x4a) 26 V5 0 1 false (vp x4a) (some 32) (hs := (by generalize x4a = qp0; cases qp0 <;> kernel_rfl))) ?_
 refine q_last (S65 x4a) (yc (some 33) false false (S64 x4a) (ok_emit_Code_Most H c8) (hr := (by generalize x4a = qp0; cases qp0 <;> kernel_rfl)) (hs := (by generalize x4a = qp0; cases qp0 <;> kernel_rfl))) ?_
 refine q_last (S66 x4a) (yc (some 34) true false (S65 x4a) (ok_frame_Need H9 c12) (hr := (by generalize x4a = qp0; cases qp0 <;> kernel_rfl)) (hs := (by generalize x4a = qp0; cases qp0 <;> kernel_rfl))) ?_
 refine q_take (S67 x4a) (by generalize x4a = qp0; cases qp0 <;> kernel_rfl) ?_
 refine q_last (S61 x4a) (yc (some 36) false false (S67 x4a) (ok_emit_Code_Patch H9 c13) (hr := (by generalize x4a = qp0; cases qp0 <;> kernel_rfl)) (hs := (by generalize x4a = qp0; cases qp0 <;> kernel_rfl))) ?_
 exact yqe
 refine q_last (S68 x4a) (yd (X := X) (S62 x4a) 26 V5 0 1 false (vp x4a) (some 32) (hs := (by generalize x4a = qp0; cases qp0 <;> kernel_rfl))) ?_
 refine q_alt (S64 x4a) (yd (X := X) (S68 x4a) 3 V5 2 1 false (vi x4c) (some 27) (hs := (by generalize x4a = qp0; cases qp0 <;> kernel_rfl))) ?_ ?_
 refine q_last (S65 x4a) (yc (some 33) false false (S64 x4a) (ok_emit_Code_Most H c8) (hr := (by generalize x4a = qp0; cases qp0 <;> kernel_rfl)) (hs := (by generalize x4a = qp0; cases qp0 <;> kernel_rfl))) ?_
 refine q_last (S66 x4a) (yc (some 34) true false (S65 x4a) (ok_frame_Need H9 c12) (hr := (by generalize x4a = qp0; cases qp0 <;> kernel_rfl)) (hs := (by generalize x4a = qp0; cases qp0 <;> kernel_rfl))) ?_
 refine q_take (S67 x4a) (by generalize x4a = qp0; cases qp0 <;> kernel_rfl) ?_
 refine q_last (S61 x4a) (yc (some 36) false false (S67 x4a) (ok_emit_Code_Patch H9 c13) (hr := (by generalize x4a = qp0; cases qp0 <;> kernel_rfl)) (hs := (by generalize x4a = qp0; cases qp0 <;> kernel_rfl))) ?_
 exact yqe
 refine q_last (S69 x4a) (yc (some 33) false false (S68 x4a) (ok_emit_Code_Most H c8) (hr := (by generalize x4a = qp0; cases qp0 <;> kernel_rfl)) (hs := (by generalize x4a = qp0; cases qp0 <;> kernel_rfl))) ?_
 refine q_alt (S65 x4a) (yd (X := X) (S69 x4a) 3 V10 2 1 false (vi x4c) (some 27) (hs := (by generalize x4a = qp0; cases qp0 <;> kernel_rfl))) ?_ ?_
 refine q_last (S66 x4a) (yc (some 34) true false (S65 x4a) (ok_frame_Need H9 c12) (hr := (by generalize x4a = qp0; cases qp0 <;> kernel_rfl)) (hs := (by generalize x4a = qp0; cases qp0 <;> kernel_rfl))) ?_
 refine q_take (S67 x4a) (by generalize x4a = qp0; cases qp0 <;> kernel_rfl) ?_
 refine q_last (S61 x4a) (yc (some 36) false false (S67 x4a) (ok_emit_Code_Patch H9 c13) (hr := (by generalize x4a = qp0; cases qp0 <;> kernel_rfl)) (hs := (by generalize x4a = qp0; cases qp0 <;> kernel_rfl))) ?_
 exact yqe
 refine q_last (S70 x4a) (yc (some 34) true false (S69 x4a) (ok_frame_Need H9 c12) (hr := (by generalize x4a = qp0; cases qp0 <;> kernel_rfl)) (hs := (by generalize x4a = qp0; cases qp0 <;> kernel_rfl))) ?_
 refine q_take (S71 x4a) (by generalize x4a = qp0; cases qp0 <;> kernel_rfl) ?_
 refine q_last (S67 x4a) (yd (X := X) (S71 x4a) 3 V10 2 1 false (vi x4c) (some 27) (hs := (by generalize x4a = qp0; cases qp0 <;> kernel_rfl))) ?_
 refine q_last (S61 x4a) (yc (some 36) false false (S67 x4a) (ok_emit_Code_Patch H9 c13) (hr := (by generalize x4a = qp0; cases qp0 <;> kernel_rfl)) (hs := (by generalize x4a = qp0; cases qp0 <;> kernel_rfl))) ?_
 exact yqe
 refine q_alt S72 (yd (X := X) S60 3 V5 2 1 false (vi x4c) (some 27)) ?_ ?_
 refine q_alt (S63 x4a) (yd (X := X) S72 26 V5 0 1 false (vp x4a) (some 22) (hs := (by generalize x4a = qp0; cases qp0 <;> kernel_rfl))) ?_ ?_
 refine q_last (S64 x4a) (yd (X := X) (S63 x4a) 26 V5 0 1 false (vp x4a) (some 32) (hs := (by generalize x4a = qp0; cases qp0 <;> kernel_rfl))) ?_
 refine q_last (S65 x4a) (yc (some 33) false false (S64 x4a) (ok_emit_Code_Most H c8) (hr := (by generalize x4a = qp0; cases qp0 <;> kernel_rfl)) (hs := (by generalize x4a = qp0; cases qp0 <;> kernel_rfl))) ?_
 refine q_last (S66 x4a) (yc (some 34) true false (S65 x4a) (ok_frame_Need H9 c12) (hr := (by generalize x4a = qp0; cases qp0 <;> kernel_rfl)) (hs := (by generalize x4a = qp0; cases qp0 <;> kernel_rfl))) ?_
 refine q_take (S67 x4a) (by generalize x4a = qp0; cases qp0 <;> kernel_rfl) ?_
 refine q_last (S61 x4a) (yc (some 36) false false (S67 x4a) (ok_emit_Code_Patch H9 c13) (hr := (by generalize x4a = qp0; cases qp0 <;> kernel_rfl)) (hs := (by generalize x4a = qp0; cases qp0 <;> kernel_rfl))) ?_
 exact yqe
 refine q_last (S73 x4a) (yd (X := X) S72 26 V5 0 1 false (vp x4a) (some 32) (hs := (by generalize x4a = qp0; cases qp0 <;> kernel_rfl))) ?_
 refine q_alt (S64 x4a) (yd (X := X) (S73 x4a) 26 V5 0 1 false (vp x4a) (some 22) (hs := (by generalize x4a = qp0; cases qp0 <;> kernel_rfl))) ?_ ?_
 refine q_last (S65 x4a) (yc (some 33) false false (S64 x4a) (ok_emit_Code_Most H c8) (hr := (by generalize x4a = qp0; cases qp0 <;> kernel_rfl)) (hs := (by generalize x4a = qp0; cases qp0 <;> kernel_rfl))) ?_
 refine q_last (S66 x4a) (yc (some 34) true false (S65 x4a) (ok_frame_Need H9 c12) (hr := (by generalize x4a = qp0; cases qp0 <;> kernel_rfl)) (hs := (by generalize x4a = qp0; cases qp0 <;> kernel_rfl))) ?_
 refine q_take (S67 x4a) (by generalize x4a = qp0; cases qp0 <;> kernel_rfl) ?_
 refine q_last (S61 x4a) (yc (some 36) false false (S67 x4a) (ok_emit_Code_Patch H9 c13) (hr := (by generalize x4a = qp0; cases qp0 <;> kernel_rfl)) (hs := (by generalize x4a = qp0; cases qp0 <;> kernel_rfl))) ?_
 exact yqe
 refine q_last (S74 x4a) (yc (some 33) false false (S73 x4a) (ok_emit_Code_Most H c8) (hr := (by generalize x4a = qp0; cases qp0 <;> kernel_rfl)) (hs := (by generalize x4a = qp0; cases qp0 <;> kernel_rfl))) ?_
 refine q_alt (S65 x4a) (yd (X := X) (S74 x4a) 26 V10 0 1 false (vp x4a) (some 22) (hs := (by generalize x4a = qp0; cases qp0 <;> kernel_rfl))) ?_ ?_
 refine q_last (S66 x4a) (yc (some 34) true false (S65 x4a) (ok_frame_Need H9 c12) (hr := (by generalize x4a = qp0; cases qp0 <;> kernel_rfl)) (hs := (by generalize x4a = qp0; cases qp0 <;> kernel_rfl))) ?_
 refine q_take (S67 x4a) (by generalize x4a = qp0; cases qp0 <;> kernel_rfl) ?_
 refine q_last (S61 x4a) (yc (some 36) false false (S67 x4a) (ok_emit_Code_Patch H9 c13) (hr := (by generalize x4a = qp0; cases qp0 <;> kernel_rfl)) (hs := (by generalize x4a = qp0; cases qp0 <;> kernel_rfl))) ?_
 exact yqe
 refine q_last (S75 x4a) (yc (some 34) true false (S74 x4a) (ok_frame_Need H9 c12) (hr := (by generalize x4a = qp0; cases qp0 <;> kernel_rfl)) (hs := (by generalize x4a = qp0; cases qp0 <;> kernel_rfl))) ?_
 refine q_take (S76 x4a) (by generalize x4a = qp0; cases qp0 <;> kernel_rfl) ?_
 refine q_last (S67 x4a) (yd (X := X) (S76 x4a) 26 V10 0 1 false (vp x4a) (some 22) (hs := (by generalize x4a = qp0; cases qp0 <;> kernel_rfl))) ?_
 refine q_last (S61 x4a) (yc (some 36) false false (S67 x4a) (ok_emit_Code_Patch H9 c13) (hr := (by generalize x4a = qp0; cases qp0 <;> kernel_rfl)) (hs := (by generalize x4a = qp0; cases qp0 <;> kernel_rfl))) ?_
 exact yqe
 refine q_last (S77 x4a) (yd (X := X) S60 26 V5 0 1 false (vp x4a) (some 32) (hs := (by generalize x4a = qp0; cases qp0 <;> kernel_rfl))) ?_
 refine q_alt (S68 x4a) (yd (X := X) (S77 x4a) 26 V5 0 1 false (vp x4a) (some 22) (hs := (by generalize x4a = qp0; cases qp0 <;> kernel_rfl))) ?_ ?_
 refine q_alt (S64 x4a) (yd (X := X) (S68 x4a) 3 V5 2 1 false (vi x4c) (some 27) (hs := (by generalize x4a = qp0; cases qp0 <;> kernel_rfl))) ?_ ?_
 refine q_last (S65 x4a) (yc (some 33) false false (S64 x4a) (ok_emit_Code_Most H c8) (hr := (by generalize x4a = qp0; cases qp0 <;> kernel_rfl)) (hs := (by generalize x4a = qp0; cases qp0 <;> kernel_rfl))) ?_
 refine q_last (S66 x4a) (yc (some 34) true false (S65 x4a) (ok_frame_Need H9 c12) (hr := (by generalize x4a = qp0; cases qp0 <;> kernel_rfl)) (hs := (by generalize x4a = qp0; cases qp0 <;> kernel_rfl))) ?_
 refine q_take (S67 x4a) (by generalize x4a = qp0; cases qp0 <;> kernel_rfl) ?_
 refine q_last (S61 x4a) (yc (some 36) false false (S67 x4a) (ok_emit_Code_Patch H9 c13) (hr := (by generalize x4a = qp0; cases qp0 <;> kernel_rfl)) (hs := (by generalize x4a = qp0; cases qp0 <;> kernel_rfl))) ?_
 exact yqe
 refine q_last (S69 x4a) (yc (some 33) false false (S68 x4a) (ok_emit_Code_Most H c8) (hr := (by generalize x4a = qp0; cases qp0 <;> kernel_rfl)) (hs := (by generalize x4a = qp0; cases qp0 <;> kernel_rfl))) ?_
 refine q_alt (S65 x4a) (yd (X := X) (S69 x4a) 3 V10 2 1 false (vi x4c) (some 27) (hs := (by generalize x4a = qp0; cases qp0 <;> kernel_rfl))) ?_ ?_
 refine q_last (S66 x4a) (yc (some 34) true false (S65 x4a) (ok_frame_Need H9 c12) (hr := (by generalize x4a = qp0; cases qp0 <;> kernel_rfl)) (hs := (by generalize x4a = qp0; cases qp0 <;> kernel_rfl))) ?_
 refine q_take (S67 x4a) (by generalize x4a = qp0; cases qp0 <;> kernel_rfl) ?_
 refine q_last (S61 x4a) (yc (some 36) false false (S67 x4a) (ok_emit_Code_Patch H9 c13) (hr := (by generalize x4a = qp0; cases qp0 <;> kernel_rfl)) (hs := (by generalize x4a = qp0; cases qp0 <;> kernel_rfl))) ?_
 exact yqe
 refine q_last (S70 x4a) (yc (some 34) true false (S69 x4a) (ok_frame_Need H9 c12) (hr := (by generalize x4a = qp0; cases qp0 <;> kernel_rfl)) (hs := (by generalize x4a = qp0; cases qp0 <;> kernel_rfl))) ?_
 refine q_take (S71 x4a) (by generalize x4a = qp0; cases qp0 <;> kernel_rfl) ?_
 refine q_last (S67 x4a) (yd (X := X) (S71 x4a) 3 V10 2 1 false (vi x4c) (some 27) (hs := (by generalize x4a = qp0; cases qp0 <;> kernel_rfl))) ?_
 refine q_last (S61 x4a) (yc (some 36) false false (S67 x4a) (ok_emit_Code_Patch H9 c13) (hr := (by generalize x4a = qp0; cases qp0 <;> kernel_rfl)) (hs := (by generalize x4a = qp0; cases qp0 <;> kernel_rfl))) ?_
 exact yqe
 refine q_alt (S73 x4a) (yd (X := X) (S77 x4a) 3 V5 2 1 false (vi x4c) (some 27) (hs := (by generalize x4a = qp0; cases qp0 <;> kernel_rfl))) ?_ ?_
 refine q_alt (S64 x4a) (yd (X := X) (S73 x4a) 26 V5 0 1 false (vp x4a) (some 22) (hs := (by generalize x4a = qp0; cases qp0 <;> kernel_rfl))) ?_ ?_
 refine q_last (S65 x4a) (yc (some 33) false false (S64 x4a) (ok_emit_Code_Most H c8) (hr := (by generalize x4a = qp0; cases qp0 <;> kernel_rfl)) (hs := (by generalize x4a = qp0; cases qp0 <;> kernel_rfl))) ?_
 refine q_last (S66 x4a) (yc (some 34) true false (S65 x4a) (ok_frame_Need H9 c12) (hr := (by generalize x4a = qp0; cases qp0 <;> kernel_rfl)) (hs := (by generalize x4a = qp0; cases qp0 <;> kernel_rfl))) ?_
 refine q_take (S67 x4a) (by generalize x4a = qp0; cases qp0 <;> kernel_rfl) ?_
 refine q_last (S61 x4a) (yc (some 36) false false (S67 x4a) (ok_emit_Code_Patch H9 c13) (hr := (by generalize x4a = qp0; cases qp0 <;> kernel_rfl)) (hs := (by generalize x4a = qp0; cases qp0 <;> kernel_rfl))) ?_
 exact yqe
 refine q_last (S74 x4a) (yc (some 33) false false (S73 x4a) (ok_emit_Code_Most H c8) (hr := (by generalize x4a = qp0; cases qp0 <;> kernel_rfl)) (hs := (by generalize x4a = qp0; cases qp0 <;> kernel_rfl))) ?_
 refine q_alt (S65 x4a) (yd (X := X) (S74 x4a) 26 V10 0 1 false (vp x4a) (some 22) (hs := (by generalize x4a = qp0; cases qp0 <;> kernel_rfl))) ?_ ?_
 refine q_last (S66 x4a) (yc (some 34) true false (S65 x4a) (ok_frame_Need H9 c12) (hr := (by generalize x4a = qp0; cases qp0 <;> kernel_rfl)) (hs := (by generalize x4a = qp0; cases qp0 <;> kernel_rfl))) ?_
 refine q_take (S67 x4a) (by generalize x4a = qp0; cases qp0 <;> kernel_rfl) ?_
 refine q_last (S61 x4a) (yc (some 36) false false (S67 x4a) (ok_emit_Code_Patch H9 c13) (hr := (by generalize x4a = qp0; cases qp0 <;> kernel_rfl)) (hs := (by generalize x4a = qp0; cases qp0 <;> kernel_rfl))) ?_
 exact yqe
 refine q_last (S75 x4a) (yc (some 34) true false (S74 x4a) (ok_frame_Need H9 c12) (hr := (by generalize x4a = qp0; cases qp0 <;> kernel_rfl)) (hs := (by generalize x4a = qp0; cases qp0 <;> kernel_rfl))) ?_
 refine q_take (S76 x4a) (by generalize x4a = qp0; cases qp0 <;> kernel_rfl) ?_
 refine q_last (S67 x4a) (yd (X := X) (S76 x4a) 26 V10 0 1 false (vp x4a) (some 22) (hs := (by generalize x4a = qp0; cases qp0 <;> kernel_rfl))) ?_
 refine q_last (S61 x4a) (yc (some 36) false false (S67 x4a) (ok_emit_Code_Patch H9 c13) (hr := (by generalize x4a = qp0; cases qp0 <;> kernel_rfl)) (hs := (by generalize x4a = qp0; cases qp0 <;> kernel_rfl))) ?_
 exact yqe
 refine q_last (S78 x4a) (yc (some 33) false false (S77 x4a) (ok_emit_Code_Most H c8) (hr := (by generalize x4a = qp0; cases qp0 <;> kernel_rfl)) (hs := (by generalize x4a = qp0; cases qp0 <;> kernel_rfl))) ?_
 refine q_alt (S69 x4a) (yd (X := X) (S78 x4a) 26 V10 0 1 false (vp x4a) (some 22) (hs := (by generalize x4a = qp0; cases qp0 <;> kernel_rfl))) ?_ ?_
 refine q_alt (S65 x4a) (yd (X := X) (S69 x4a) 3 V10 2 1 false (vi x4c) (some 27) (hs := (by generalize x4a = qp0; cases qp0 <;> kernel_rfl))) ?_ ?_
 refine q_last (S66 x4a) (yc (some 34) true false (S65 x4a) (ok_frame_Need H9 c12) (hr := (by generalize x4a = qp0; cases qp0 <;> kernel_rfl)) (hs := (by generalize x4a = qp0; cases qp0 <;> kernel_rfl))) ?_
 refine q_take (S67 x4a) (by generalize x4a = qp0; cases qp0 <;> kernel_rfl) ?_
 refine q_last (S61 x4a) (yc (some 36) false false (S67 x4a) (ok_emit_Code_Patch H9 c13) (hr := (by generalize x4a = qp0; cases qp0 <;> kernel_rfl)) (hs := (by generalize x4a = qp0; cases qp0 <;> kernel_rfl))) ?_
 exact yqe
 refine q_last (S70 x4a) (yc (some 34) true false (S69 x4a) (ok_frame_Need H9 c12) (hr := (by generalize x4a = qp0; cases qp0 <;> kernel_rfl)) (hs := (by generalize x4a = qp0; cases qp0 <;> kernel_rfl))) ?_
 refine q_take (S71 x4a) (by generalize x4a = qp0; cases qp0 <;> kernel_rfl) ?_
 refine q_last (S67 x4a) (yd (X := X) (S71 x4a) 3 V10 2 1 false (vi x4c) (some 27) (hs := (by generalize x4a = qp0; cases qp0 <;> kernel_rfl))) ?_
 refine q_last (S61 x4a) (yc (some 36) false false (S67 x4a) (ok_emit_Code_Patch H9 c13) (hr := (by generalize x4a = qp0; cases qp0 <;> kernel_rfl)) (hs := (by generalize x4a = qp0; cases qp0 <;> kernel_rfl))) ?_
 exact yqe
 refine q_alt (S74 x4a) (yd (X := X) (S78 x4a) 3 V10 2 1 false (vi x4c) (some 27) (hs := (by generalize x4a = qp0; cases qp0 <;> kernel_rfl))) ?_ ?_
 refine q_alt (S65 x4a) (yd (X := X) (S74 x4a) 26 V10 0 1 false (vp x4a) (some 22) (hs := (by generalize x4a = qp0; cases qp0 <;> kernel_rfl))) ?_ ?_
 refine q_last (S66 x4a) (yc (some 34) true false (S65 x4a) (ok_frame_Need H9 c12) (hr := (by generalize x4a = qp0; cases qp0 <;> kernel_rfl)) (hs := (by generalize x4a = qp0; cases qp0 <;> kernel_rfl))) ?_
 refine q_take (S67 x4a) (by generalize x4a = qp0; cases qp0 <;> kernel_rfl) ?_
 refine q_last (S61 x4a) (yc (some 36) false false (S67 x4a) (ok_emit_Code_Patch H9 c13) (hr := (by generalize x4a = qp0; cases qp0 <;> kernel_rfl)) (hs := (by generalize x4a = qp0; cases qp0 <;> kernel_rfl))) ?_
 exact yqe
 refine q_last (S75 x4a) (yc (some 34) true false (S74 x4a) (ok_frame_Need H9 c12) (hr := (by generalize x4a = qp0; cases qp0 <;> kernel_rfl)) (hs := (by generalize x4a = qp0; cases qp0 <;> kernel_rfl))) ?_
 refine q_take (S76 x4a) (by generalize x4a = qp0; cases qp0 <;> kernel_rfl) ?_
 refine q_last (S67 x4a) (yd (X := X) (S76 x4a) 26 V10 0 1 false (vp x4a) (some 22) (hs := (by generalize x4a = qp0; cases qp0 <;> kernel_rfl))) ?_
 refine q_last (S61 x4a) (yc (some 36) false false (S67 x4a) (ok_emit_Code_Patch H9 c13) (hr := (by generalize x4a = qp0; cases qp0 <;> kernel_rfl)) (hs := (by generalize x4a = qp0; cases qp0 <;> kernel_rfl))) ?_
 exact yqe
 refine q_last ⟨[E2, E7, E8, E9, E10, E11, E12, E13, E14, E15, E16, E17, E18, (E21 x4a), E22, E23], [], H9⟩ (yc (some 34) true false (S78 x4a) (ok_frame_Need H9 c12) (hr := (by generalize x4a = qp0; cases qp0 <;> kernel_rfl)) (hs := (by generalize x4a = qp0; cases qp0 <;> kernel_rfl))) ?_
 refine q_take (S79 x4a) (by generalize x4a = qp0; cases qp0 <;> kernel_rfl) ?_
 refine q_alt (S71 x4a) (yd (X := X) (S79 x4a) 26 V10 0 1 false (vp x4a) (some 22) (hs := (by generalize x4a = qp0; cases qp0 <;> kernel_rfl))) ?_ ?_
 refine q_last (S67 x4a) (yd (X := X) (S71 x4a) 3 V10 2 1 false (vi x4c) (some 27) (hs := (by generalize x4a = qp0; cases qp0 <;> kernel_rfl))) ?_
 refine q_last (S61 x4a) (yc (some 36) false false (S67 x4a) (ok_emit_Code_Patch H9 c13) (hr := (by generalize x4a = qp0; cases qp0 <;> kernel_rfl)) (hs := (by generalize x4a = qp0; cases qp0 <;> kernel_rfl))) ?_
 exact yqe
 refine q_last (S76 x4a) (yd (X := X) (S79 x4a) 3 V10 2 1 false (vi x4c) (some 27) (hs := (by generalize x4a = qp0; cases qp0 <;> kernel_rfl))) ?_
 refine q_last (S67 x4a) (yd (X := X) (S76 x4a) 26 V10 0 1 false (vp x4a) (some 22) (hs := (by generalize x4a = qp0; cases qp0 <;> kernel_rfl))) ?_
 refine q_last (S61 x4a) (yc (some 36) false false (S67 x4a) (ok_emit_Code_Patch H9 c13) (hr := (by generalize x4a = qp0; cases qp0 <;> kernel_rfl)) (hs := (by generalize x4a = qp0; cases qp0 <;> kernel_rfl))) ?_
 exact yqe
 kernel_rfl
 refine w_seq ?_
 obtain ⟨H17, c16, hF⟩ := bind1_inv hF
 let S81 : Ptr → St := fun z0 => ⟨[E2, E7, E26, E27, E28, (E35 z0), E29, E30, E31, E32, E36, E33, E34, (48, vN)], [], H17⟩
 let S85 : St := ⟨[E2, E7, E39, E40, E41, E42], [], H17⟩
 refine w_regD (.take 0 (.take 1 (.take 2 (.take 4 (.take 5 (.take 6 (.take 7 (.take 9 (.take 10 (.alt 3 (.last 8 (.last 11 .done)) (.last 8 (.last 3 (.last 11 .done))))))))))))) (by kernel_rfl) (⟨[E2, E7], [], H17⟩ : St) ?_ ?_
 refine ydk 9 S80 ?_
 refine q_in (S81 x4a) ?_ ?_
 refine q_alt (S82 x4a) (yd (X := X) S80 26 V15 0 1 false (vp x4a) (some 40) (hs := (by generalize x4a = qp0; cases qp0 <;> kernel_rfl))) ?_ ?_
 refine q_last (S83 x4a) (yd (X := X) (S82 x4a) 3 V15 3 1 false (vi x4d) (some 45) (hs := (by generalize x4a = qp0; cases qp0 <;> kernel_rfl))) ?_
 refine q_last (S81 x4a) (yc (some 48) false false (S83 x4a) (ok_emit_Code_Patch H14 c16) (hr := (by generalize x4a = qp0; cases qp0 <;> kernel_rfl)) (hs := (by generalize x4a = qp0; cases qp0 <;> kernel_rfl))) ?_
 exact yqe
 refine q_last S84 (yd (X := X) S80 3 V15 3 1 false (vi x4d) (some 45)) ?_
 refine q_last (S83 x4a) (yd (X := X) S84 26 V15 0 1 false (vp x4a) (some 40) (hs := (by generalize x4a = qp0; cases qp0 <;> kernel_rfl))) ?_
 refine q_last (S81 x4a) (yc (some 48) false false (S83 x4a) (ok_emit_Code_Patch H14 c16) (hr := (by generalize x4a = qp0; cases qp0 <;> kernel_rfl)) (hs := (by generalize x4a = qp0; cases qp0 <;> kernel_rfl))) ?_
 exact yqe
 kernel_rfl
 refine w_seq ?_
 obtain ⟨⟨x18a, x18b, ⟨x18c, x18d, x18e, x18f⟩⟩, V19, hF⟩ := bind1_inv hF
 replace V19 := hgetT_inv V19
 let E37 : EN := (53, .one (.own 0) (.sl 1 (List.map (eI .i64) x18e)))
 let E38 : EN := (54, vi (x18e.length : Int))
 let S86 : St := ⟨[E2, E7, E39, E40, E41, E42, E37], [], H17⟩
 refine w_regO ⟨[E2, E7, E37, E38, (55, vi 0)], [], H17⟩ ?_ ?_
 refine yr 2 ⟨[E2, E7, E39, E40], [], H17⟩ ?_
 refine yr 2 S85 ?_
 refine o_one S86 (yd (X := X) S85 27 V19 4 1 false (.one (.own 0) (.sl 1 (List.map (eI .i64) x18e))) (some 53)) ?_
 refine o_one ⟨[E2, E7, E39, E40, E41, E42, E37, E38], [], H17⟩ (yl S86 x18e (eI .i64) (some 54)) ?_
 refine yr 1 ⟨[E2, E7, E39, E40, E41, E42, E37, E38, (55, vi 0)], [], H17⟩ ?_
 exact ye
 refine w_block ?_
 obtain ⟨r29, hL30, hF⟩ := bind1_inv hF
 refine w_loop (fun (x : (Int × Heap)) => (⟨[E2, E7, E37, E38, (55, vi x.1)], [], x.2⟩ : St)) (fun (y : (Heap)) => ((.exit 0, (⟨[], [], y⟩ : St)) : Ex × St)) hL30 (by kernel_rfl) ?_ ?_
 rintro ⟨a20, H21⟩ o hF
 replace hF : item_Gen_Done_L2 (T_item_Gen.mk x18a x18b (T_item_Proc.mk x18c x18d x18e x18f)) i1 o2 j6 a20 H21 = some o := hF
 let E43 : EN := (55, vi a20)
 let S87 : St := ⟨[E2, E7, E37, E38, E43], [], H21⟩
 unfold item_Gen_Done_L2 at hF
 refine ysg ⟨[E2, E7, E37, E38, E43, (56, vb (decide (a20 < (x18e.length : Int))))], [], H21⟩ ?_
 refine w_seq ?_
 rcases if_inv hF with ⟨h22, hF⟩ | ⟨h22, hF⟩
 refine yT h22 S87 ?_
 refine w_skip ?_
 refine w_seq ?_
 refine w_block ?_
 refine w_seq ?_
 obtain ⟨x23, h24, hF⟩ := bind1_inv hF
 let E44 : EN := (4, vi x23)
 let E45 : EN := (57, .one .top (.rd (.own 0) (.own 0) [.int .i64 x23] 0))
 let S88 : St := ⟨[E2, E7, E44, E37, E38, E43, E46, E47, E48], [], H21⟩
 refine w_regO ⟨[E2, E7, E44, E37, E38, E43], [], H21⟩ ?_ ?_
 refine o_one ⟨[E2, E7, E37, E38, E43, E45], [], H21⟩ (st_ix (X := X) S87 27 3 1 h24 (eI .i64) (.own 0) (some 57) (by kernel_rfl) (by kernel_rfl) (by kernel_rfl) (by kernel_rfl)) ?_
 refine yr 2 ⟨[E2, E7, E44, E37, E38, E43, E45, (58, vi x23)], [], H21⟩ ?_
 exact ye
 obtain ⟨⟨x25a, x25b, ⟨x25c, x25d, x25e, x25f⟩⟩, V26, hF⟩ := bind1_inv hF
 replace V26 := hgetT_inv V26
 let E49 : Ptr → EN := fun z0 => (62, vp z0)
 let S89 : Ptr → St := fun z0 => ⟨[E2, E7, E44, E37, E38, E43, E46, E47, E48, (E49 z0), (63, vi x23), (64, vi j6), E50], [], H21⟩
 obtain ⟨H28, c27, hF⟩ := bind1_inv hF
 refine w_regO ⟨[E2, E7, E37, E38, E43], [], H28⟩ ?_ ?_
 refine yr 2 ⟨[E2, E7, E44, E37, E38, E43, E46, E47], [], H21⟩ ?_
 refine yr 1 S88 ?_
 refine o_one ⟨[E2, E7, E44, E37, E38, E43, E46, E47, E48, (E49 x25a)], [], H21⟩ (yd (X := X) S88 26 V26 0 1 false (vp x25a) (some 62) (hs := (by generalize x25a = qp0; cases qp0 <;> kernel_rfl))) ?_
 refine yr 3 (S89 x25a) ?_ (h := (by generalize x25a = qp0; cases qp0 <;> kernel_rfl))
 refine o_one ⟨[E2, E7, E44, E37, E38, E43, E46, E47, E48, (E49 x25a), (63, vi x23), (64, vi j6), E50, (66, vN)], [], H28⟩ (yc (some 66) false false (S89 x25a) (ok_emit_Code_Patch H21 c27) (hr := (by generalize x25a = qp0; cases qp0 <;> kernel_rfl)) (hs := (by generalize x25a = qp0; cases qp0 <;> kernel_rfl))) ?_
 exact ye
 refine yg ⟨[E2, E7, E37, E38, (55, vi (IntKind.wrap .i64 (a20 + 1)))], [], H28⟩ ?_
 cases hF
 exact ⟨_, rfl, (by kernel_rfl)⟩
 refine yF h22 ⟨[], [], H21⟩ ?_
 refine w_exit ?_
 cases hF
 exact ⟨_, rfl, (by kernel_rfl)⟩
 obtain ⟨H31, hy⟩ : ∃ y, y = r29 := ⟨_, rfl⟩
 subst hy
 refine w_oe (i := 0) (s := (⟨[], [], H31⟩ : St)) (by kernel_rfl) ?_
 refine e_here ?_
 obtain e0 := some1_inv hF
 subst e0
 exact yi (vN)
 rcases if_inv hF with ⟨h32, hF⟩ | ⟨h32, hF⟩
 refine yT h32 ⟨[E2], [], H⟩ ?_
 obtain ⟨i33, o34, h35, hF⟩ := pbnd_inv hF
 let E55 : EN := (15, vo i33 o34)
 let E56 : EN := (16, vo i33 o34)
 let E57 : EN := (17, vo i33 o34)
 let S91 : St := ⟨[E2, E51, E52, E53, E54, E55, E56, E57], [], H⟩
 obtain ⟨x36, V37, hF⟩ := bind1_inv hF
 replace V37 := hgetT_inv V37
 refine w_regO ⟨[E2, (2, vi x36.Size_)], [], H⟩ ?_ ?_
 refine yr 4 S90 ?_
 refine o_one ⟨[E2, E51, E52, E53, E54, (15, vp x4f)], [], H⟩ (yd (X := X) S90 28 V5 5 1 false (vp x4f) (some 15) (hs := (by generalize x4f = qp0; cases qp0 <;> kernel_rfl))) ?_
 refine o_eq (congrArg (fun q => (⟨[E2, E51, E52, E53, E54, (15, vp q)], [], H⟩ : St)) h35) ?_
 refine yr 1 ⟨[E2, E51, E52, E53, E54, E55, E56], [], H⟩ ?_
 refine yr 1 S91 ?_
 refine o_one ⟨[E2, E51, E52, E53, E54, E55, E56, E57, (18, vi x36.Size_)], [], H⟩ (yd (X := X) S91 3 V37 0 1 false (vi x36.Size_) (some 18)) ?_
 refine yr 1 ⟨[E2, (2, vi x36.Size_), E51, E52, E53, E54, E55, E56, E57, (18, vi x36.Size_)], [], H⟩ ?_
 exact ye
 exact ⟨x36.Size_, hF, (by kernel_rfl)⟩
 refine yF h32 ⟨[E2, E1], [], H⟩ ?_
 refine w_skip ?_
 exact ⟨0, hF, (by kernel_rfl)⟩
noncomputable def item_Gen_Base_L1 (p1 : Int) (i1 : Nat) (o2 : Nat) (a15 : Int) (H16 : Heap) : Option ((Int × Heap) ⊕ ((Heap))) :=
  if (decide (a15 > p1)) = true then (bind1 (get_item_Gen H16 i1 o2) fun x18 =>
  bind2 (emit_Code_Sign H16 x18.Code_ 18 0 0 8) fun H22 r20 =>
  some (Sum.inl ((IntKind.wrap .i64 (a15 - 1)), H22)))
  else (some (Sum.inr H16))
noncomputable def item_Gen_Base (H : Heap) (p0 : Ptr) (p1 : Int) : Option (Heap) :=
  (p0).bnd fun i1 o2 =>
  bind1 (get_item_Gen H i1 o2) fun x4 =>
  if (decide (p1 ≥ x4.Level_)) = true then (bind2 (emit_Code_Sign H x4.Code_ 5 0 13 0) fun H9 r7 =>
  some H9)
  else (bind2 (emit_Code_Sign H x4.Code_ 18 0 13 8) fun H12 r10 =>
  bind1 (get_item_Gen H12 i1 o2) fun x13 =>
  bind1 (loopO (fun (x : (Int × Heap)) => item_Gen_Base_L1 p1 i1 o2 x.1 x.2) ((IntKind.wrap .i64 (x13.Level_ - 1)), H12)) (fun H25 =>
  some H25))
theorem ok_item_Gen_Base (H : Heap) {p0 : Ptr} {p1 : Int} {Hr : Heap} (hF : item_Gen_Base H p0 p1 = some Hr) : evS X 78 [.one .top (Ptr.av p0), .one .top (.int .i64 p1)] H = some (.tup [], Hr) := by
 let E1 : EN := (1, vi p1)
 let E4 : EN := (5, vi p1)
 refine yf Try.func78 false ⟨[(0, vp p0), E1], [], H⟩ ?_
 unfold item_Gen_Base at hF
 refine w_seq ?_
 refine w_seq ?_
 obtain ⟨i1, o2, h3, hF⟩ := pbnd_inv hF
 let E2 : EN := (0, vo i1 o2)
 let E5 : EN := (6, vo i1 o2)
 let E6 : EN := (7, vo i1 o2)
 let E7 : EN := (8, vo i1 (o2 + 1))
 let E8 : EN := (11, vo i1 o2)
 let E9 : EN := (12, vo i1 o2)
 let E10 : EN := (13, vo i1 o2)
 let E11 : EN := (16, vo i1 o2)
 let E12 : EN := (17, vo i1 o2)
 let E13 : EN := (18, vo i1 o2)
 let E15 : EN := (21, vo i1 o2)
 let E16 : EN := (22, vo i1 o2)
 let E17 : EN := (23, vo i1 (o2 + 1))
 let E19 : EN := (31, vo i1 o2)
 let E20 : EN := (32, vo i1 o2)
 let E21 : EN := (33, vo i1 o2)
 let S22 : St := ⟨[E2, E1, E4, E5, E6, E7], [], H⟩
 let S23 : St := ⟨[E2, E8, E9, E10], [], H⟩
 let S25 : St := ⟨[E2, E1, E11, E12, E13], [], H⟩
 obtain ⟨⟨x4a, x4b, ⟨x4c, x4d, x4e, x4f⟩⟩, V5, hF⟩ := bind1_inv hF
 replace V5 := hgetT_inv V5
 let E3 : EN := (10, vb (decide (p1 ≥ x4b)))
 let S24 : Ptr → St := fun z0 => ⟨[E2, E8, E9, E10, (14, vp z0)], [], H⟩
 let S26 : Ptr → St := fun z0 => ⟨[E2, E1, E11, E12, E13, (19, vp z0)], [], H⟩
 refine w_regO ⟨[E2, E1, E3], [], H⟩ ?_ ?_
 refine yr 2 ⟨[(0, vp p0), E1, E4, (6, vp p0)], [], H⟩ ?_ (h := (by generalize p0 = qp0; cases qp0 <;> kernel_rfl))
 refine o_eq (congrArg (fun q => (⟨[(0, vp q), E1, E4, (6, vp q)], [], H⟩ : St)) h3) ?_
 refine yr 1 ⟨[E2, E1, E4, E5, E6], [], H⟩ ?_
 refine yr 1 S22 ?_
 refine o_one ⟨[E2, E1, E4, E5, E6, E7, (9, vi x4b)], [], H⟩ (yd (X := X) S22 3 V5 1 1 false (vi x4b) (some 9)) ?_
 refine yr 1 ⟨[E2, E1, E4, E5, E6, E7, (9, vi x4b), E3], [], H⟩ ?_
 exact ye
 rcases if_inv hF with ⟨h6, hF⟩ | ⟨h6, hF⟩
 refine yT h6 ⟨[E2], [], H⟩ ?_
 refine w_seq ?_
 obtain ⟨H9, r7, c8, hF⟩ := bind2_inv hF
 refine w_regO ⟨[], [], H9⟩ ?_ ?_
 refine yr 3 S23 ?_
 refine o_one (S24 x4a) (yd (X := X) S23 26 V5 0 1 false (vp x4a) (some 14) (hs := (by generalize x4a = qp0; cases qp0 <;> kernel_rfl))) ?_
 refine o_one ⟨[E2, E8, E9, E10, (14, vp x4a), (15, vi r7)], [], H9⟩ (yc (some 15) false false (S24 x4a) (ok_emit_Code_Sign H c8) (hr := (by generalize x4a = qp0; cases qp0 <;> kernel_rfl)) (hs := (by generalize x4a = qp0; cases qp0 <;> kernel_rfl))) ?_
 exact ye
 refine w_ret ?_
 obtain e0 := some1_inv hF
 subst e0
 exact yi (vN)
 refine yF h6 ⟨[E2, E1], [], H⟩ ?_
 refine w_skip ?_
 refine w_seq ?_
 obtain ⟨H12, r10, c11, hF⟩ := bind2_inv hF
 let S27 : St := ⟨[E2, E1, E15, E16, E17], [], H12⟩
 refine w_regO ⟨[E2, E1], [], H12⟩ ?_ ?_
 refine yr 3 S25 ?_
 refine o_one (S26 x4a) (yd (X := X) S25 26 V5 0 1 false (vp x4a) (some 19) (hs := (by generalize x4a = qp0; cases qp0 <;> kernel_rfl))) ?_
 refine o_one ⟨[E2, E1, E11, E12, E13, (19, vp x4a), (20, vi r10)], [], H12⟩ (yc (some 20) false false (S26 x4a) (ok_emit_Code_Sign H c11) (hr := (by generalize x4a = qp0; cases qp0 <;> kernel_rfl)) (hs := (by generalize x4a = qp0; cases qp0 <;> kernel_rfl))) ?_
 exact ye
 refine w_seq ?_
 obtain ⟨⟨x13a, x13b, ⟨x13c, x13d, x13e, x13f⟩⟩, V14, hF⟩ := bind1_inv hF
 replace V14 := hgetT_inv V14
 let E14 : EN := (4, vi (IntKind.wrap .i64 (x13b - 1)))
 refine w_regO ⟨[E2, E1, E14], [], H12⟩ ?_ ?_
 refine yr 2 ⟨[E2, E1, E15, E16], [], H12⟩ ?_
 refine yr 1 S27 ?_
 refine o_one ⟨[E2, E1, E15, E16, E17, (24, vi x13b)], [], H12⟩ (yd (X := X) S27 3 V14 1 1 false (vi x13b) (some 24)) ?_
 refine yr 2 ⟨[E2, E1, E14, E15, E16, E17, (24, vi x13b), (25, vi (IntKind.wrap .i64 (x13b - 1)))], [], H12⟩ ?_
 exact ye
 refine w_block ?_
 obtain ⟨r23, hL24, hF⟩ := bind1_inv hF
 refine w_loop (fun (x : (Int × Heap)) => (⟨[E2, E1, (4, vi x.1)], [], x.2⟩ : St)) (fun (y : (Heap)) => ((.exit 0, (⟨[], [], y⟩ : St)) : Ex × St)) hL24 (by kernel_rfl) ?_ ?_
 rintro ⟨a15, H16⟩ o hF
 replace hF : item_Gen_Base_L1 p1 i1 o2 a15 H16 = some o := hF
 let E18 : EN := (4, vi a15)
 let S28 : St := ⟨[E2, E1, E18, E19, E20, E21], [], H16⟩
 unfold item_Gen_Base_L1 at hF
 refine w_seq ?_
 refine ysg ⟨[E2, E1, E18, (28, vb (decide (a15 > p1)))], [], H16⟩ ?_
 rcases if_inv hF with ⟨h17, hF⟩ | ⟨h17, hF⟩
 refine yT h17 ⟨[E2, E1, E18], [], H16⟩ ?_
 refine w_skip ?_
 refine w_seq ?_
 refine w_block ?_
 obtain ⟨⟨x18a, x18b, ⟨x18c, x18d, x18e, x18f⟩⟩, V19, hF⟩ := bind1_inv hF
 replace V19 := hgetT_inv V19
 let S29 : Ptr → St := fun z0 => ⟨[E2, E1, E18, E19, E20, E21, (34, vp z0)], [], H16⟩
 obtain ⟨H22, r20, c21, hF⟩ := bind2_inv hF
 refine w_regO ⟨[E2, E1, E18], [], H22⟩ ?_ ?_
 refine yr 2 ⟨[E2, E1, E18, E19, E20], [], H16⟩ ?_
 refine yr 1 S28 ?_
 refine o_one (S29 x18a) (yd (X := X) S28 26 V19 0 1 false (vp x18a) (some 34) (hs := (by generalize x18a = qp0; cases qp0 <;> kernel_rfl))) ?_
 refine o_one ⟨[E2, E1, E18, E19, E20, E21, (34, vp x18a), (35, vi r20)], [], H22⟩ (yc (some 35) false false (S29 x18a) (ok_emit_Code_Sign H16 c21) (hr := (by generalize x18a = qp0; cases qp0 <;> kernel_rfl)) (hs := (by generalize x18a = qp0; cases qp0 <;> kernel_rfl))) ?_
 exact ye
 refine yg ⟨[E2, E1, (4, vi (IntKind.wrap .i64 (a15 - 1)))], [], H22⟩ ?_
 cases hF
 exact ⟨_, rfl, (by kernel_rfl)⟩
 refine yF h17 ⟨[], [], H16⟩ ?_
 refine w_exit ?_
 cases hF
 exact ⟨_, rfl, (by kernel_rfl)⟩
 obtain ⟨H25, hy⟩ : ∃ y, y = r23 := ⟨_, rfl⟩
 subst hy
 refine w_oe (i := 0) (s := (⟨[], [], H25⟩ : St)) (by kernel_rfl) ?_
 refine e_here ?_
 obtain e0 := some1_inv hF
 subst e0
 exact yi (vN)
noncomputable def item_Gen_Link_j1 (j1 : Ptr) (H2 : Heap) : Option (Heap) :=
  (j1).bnd fun i3 o4 =>
  bind1 (get_item_Gen H2 i3 o4) fun x6 =>
  bind1 (emit_Code_Push H2 x6.Code_ 0) fun H9 =>
  some H9
noncomputable def item_Gen_Link (H : Heap) (p0 : Ptr) (p1 : Int) : Option (Heap) :=
  if (decide (p1 ≤ 0)) = true then ((p0).bnd fun i11 o12 =>
  bind1 (get_item_Gen H i11 o12) fun x14 =>
  bind1 (emit_Code_Number H x14.Code_ 0 0) fun H17 =>
  item_Gen_Link_j1 (Ptr.at i11 o12) H17)
  else (bind1 (item_Gen_Base H p0 p1) fun H19 =>
  item_Gen_Link_j1 p0 H19)
theorem ok_item_Gen_Link (H : Heap) {p0 : Ptr} {p1 : Int} {Hr : Heap} (hF : item_Gen_Link H p0 p1 = some Hr) : evS X 49 [.one .top (Ptr.av p0), .one .top (.int .i64 p1)] H = some (.tup [], Hr) := by
 let E1 : Ptr → EN := fun z0 => (0, vp z0)
 let E2 : EN := (1, vi p1)
 let S11 : Ptr → St := fun z0 => ⟨[(E1 z0), E2], [], H⟩
 let S16 : Ptr → St := fun z0 => ⟨[(E1 z0), E2, (11, vp z0), (12, vi p1)], [], H⟩
 refine yf Try.func49 false (S11 p0) ?_
 unfold item_Gen_Link at hF
 refine w_seq ?_
 refine ysg ⟨[(E1 p0), E2, (5, vb (decide (p1 ≤ 0)))], [], H⟩ ?_ (h := (by generalize p0 = qp0; cases qp0 <;> kernel_rfl))
 refine w_join (α := (Ptr × Heap)) (fun x => (⟨[(0, vp x.1)], [], x.2⟩ : St)) (fun x => item_Gen_Link_j1 x.1 x.2 = some Hr) ?_ ?_
 rintro ⟨j1, H2⟩ hF
 replace hF : item_Gen_Link_j1 j1 H2 = some Hr := hF
 unfold item_Gen_Link_j1 at hF
 obtain ⟨i3, o4, h5, hF⟩ := pbnd_inv hF
 let E3 : EN := (0, vo i3 o4)
 let E4 : EN := (14, vo i3 o4)
 let E5 : EN := (15, vo i3 o4)
 let E6 : EN := (16, vo i3 o4)
 let S12 : St := ⟨[E3, E4, E5, E6], [], H2⟩
 obtain ⟨⟨x6a, x6b, ⟨x6c, x6d, x6e, x6f⟩⟩, V7, hF⟩ := bind1_inv hF
 replace V7 := hgetT_inv V7
 let S13 : Ptr → St := fun z0 => ⟨[E3, E4, E5, E6, (17, vp z0)], [], H2⟩
 obtain ⟨H9, c8, hF⟩ := bind1_inv hF
 refine w_regO ⟨[], [], H9⟩ ?_ ?_
 refine yr 1 ⟨[(0, vp j1), (14, vp j1)], [], H2⟩ ?_ (h := (by generalize j1 = qp0; cases qp0 <;> kernel_rfl))
 refine o_eq (congrArg (fun q => (⟨[(0, vp q), (14, vp q)], [], H2⟩ : St)) h5) ?_
 refine yr 1 ⟨[E3, E4, E5], [], H2⟩ ?_
 refine yr 1 S12 ?_
 refine o_one (S13 x6a) (yd (X := X) S12 26 V7 0 1 false (vp x6a) (some 17) (hs := (by generalize x6a = qp0; cases qp0 <;> kernel_rfl))) ?_
 refine o_one ⟨[E3, E4, E5, E6, (17, vp x6a), (18, vN)], [], H9⟩ (yc (some 18) false false (S13 x6a) (ok_emit_Code_Push H2 c8) (hr := (by generalize x6a = qp0; cases qp0 <;> kernel_rfl)) (hs := (by generalize x6a = qp0; cases qp0 <;> kernel_rfl))) ?_
 exact ye
 obtain e0 := some1_inv hF
 subst e0
 exact yi (vN)
 rcases if_inv hF with ⟨h10, hF⟩ | ⟨h10, hF⟩
 refine yT h10 ⟨[(E1 p0)], [], H⟩ ?_
 obtain ⟨i11, o12, h13, hF⟩ := pbnd_inv hF
 let E7 : EN := (0, vo i11 o12)
 let E8 : EN := (6, vo i11 o12)
 let E9 : EN := (7, vo i11 o12)
 let E10 : EN := (8, vo i11 o12)
 let S14 : St := ⟨[E7, E8, E9, E10], [], H⟩
 obtain ⟨⟨x14a, x14b, ⟨x14c, x14d, x14e, x14f⟩⟩, V15, hF⟩ := bind1_inv hF
 replace V15 := hgetT_inv V15
 let S15 : Ptr → St := fun z0 => ⟨[E7, E8, E9, E10, (9, vp z0)], [], H⟩
 obtain ⟨H17, c16, hF⟩ := bind1_inv hF
 refine w_regO ⟨[E7], [], H17⟩ ?_ ?_
 refine yr 1 ⟨[(E1 p0), (6, vp p0)], [], H⟩ ?_ (h := (by generalize p0 = qp0; cases qp0 <;> kernel_rfl))
 refine o_eq (congrArg (fun q => (⟨[(0, vp q), (6, vp q)], [], H⟩ : St)) h13) ?_
 refine yr 1 ⟨[E7, E8, E9], [], H⟩ ?_
 refine yr 1 S14 ?_
 refine o_one (S15 x14a) (yd (X := X) S14 26 V15 0 1 false (vp x14a) (some 9) (hs := (by generalize x14a = qp0; cases qp0 <;> kernel_rfl))) ?_
 refine o_one ⟨[E7, E8, E9, E10, (9, vp x14a), (10, vN)], [], H17⟩ (yc (some 10) false false (S15 x14a) (ok_emit_Code_Number H c16) (hr := (by generalize x14a = qp0; cases qp0 <;> kernel_rfl)) (hs := (by generalize x14a = qp0; cases qp0 <;> kernel_rfl))) ?_
 exact ye
 exact ⟨((Ptr.at i11 o12), H17), hF, (by kernel_rfl)⟩
 refine yF h10 (S11 p0) ?_
 obtain ⟨H19, c18, hF⟩ := bind1_inv hF
 refine w_regO ⟨[(E1 p0)], [], H19⟩ ?_ ?_
 refine yr 2 (S16 p0) ?_ (h := (by generalize p0 = qp0; cases qp0 <;> kernel_rfl))
 refine o_one ⟨[(E1 p0), E2, (11, vp p0), (12, vi p1), (13, vN)], [], H19⟩ (yc (some 13) false false (S16 p0) (ok_item_Gen_Base H c18) (hr := (by generalize p0 = qp0; cases qp0 <;> kernel_rfl)) (hs := (by generalize p0 = qp0; cases qp0 <;> kernel_rfl))) ?_
 exact ye
 exact ⟨(p0, H19), hF, (by kernel_rfl)⟩
noncomputable def emit_Code_Fix (H : Heap) (p0 : Ptr) (p1 : Int) (p2 : Int) (p3 : Int) (p4 : Int) : Option (Heap) :=
  (p0).bnd fun i1 o2 =>
  bind1 (get_emit_Code H i1 o2) fun x4 =>
  bind1 (app 32 x4.fixups_ ([(T_api_Fixup.mk (x4.words_.length : Int) p1 p2 p3)] : List T_api_Fixup)) fun v6 =>
  bnd (set_emit_Code H i1 o2 (T_emit_Code.mk x4.words_ v6 x4.marks_ x4.pads_ x4.active_ x4.depth_ x4.most_ x4.err_)) fun H8 =>
  if (p1 == 3) = true then (bind2 (emit_Code_Put H8 (Ptr.at i1 o2) (T_instr_Instr.mk 23 0 0 0 0)) fun H14 r12 =>
  some H14)
  else (bind2 (emit_Code_Put H8 (Ptr.at i1 o2) (T_instr_Instr.mk 3 p4 0 0 0)) fun H17 r15 =>
  bind2 (emit_Code_Put H17 (Ptr.at i1 o2) (T_instr_Instr.mk 4 p4 p4 0 0)) fun H20 r18 =>
  some H20)
theorem ok_emit_Code_Fix (H : Heap) {p0 : Ptr} {p1 : Int} {p2 : Int} {p3 : Int} {p4 : Int} {Hr : Heap} (hF : emit_Code_Fix H p0 p1 p2 p3 p4 = some Hr) : evS X 77 [.one .top (Ptr.av p0), .one .top (.int .i64 p1), .one .top (.int .i64 p2), .one .top (.int .i64 p3), .one .top (.int .i64 p4)] H = some (.tup [], Hr) := by
 let E1 : EN := (1, vi p1)
 let E2 : EN := (2, vi p2)
 let E3 : EN := (3, vi p3)
 let E4 : EN := (4, vi p4)
 let E11 : EN := (17, vi p1)
 let E12 : EN := (18, vi p2)
 let E13 : EN := (19, vi p3)
 let E14 : EN := (14, .one .top .junk)
 let E17 : EN := (21, .one .top .junk)
 let E18 : EN := (22, .one .top .junk)
 let E24 : EN := (28, .agg ([(.top, .int .i64 23)] ++ List.replicate 4 (.top, .int .i64 0)))
 let E25 : EN := (32, .agg [(.top, .int .i64 3), (.top, .int .i64 p4), (.top, .int .i64 0), (.top, .int .i64 0), (.top, .int .i64 0)])
 let E26 : EN := (37, .agg [(.top, .int .i64 4), (.top, .int .i64 p4), (.top, .int .i64 p4), (.top, .int .i64 0), (.top, .int .i64 0)])
 refine yf Try.func77 false ⟨[(0, vp p0), E1, E2, E3, E4], [], H⟩ ?_
 unfold emit_Code_Fix at hF
 refine w_seq ?_
 obtain ⟨i1, o2, h3, hF⟩ := pbnd_inv hF
 let E5 : EN := (0, vo i1 o2)
 let E6 : EN := (10, vo i1 o2)
 let E7 : EN := (11, vo i1 o2)
 let E8 : EN := (12, vo i1 o2)
 let E9 : EN := (13, vo i1 (o2 + 1))
 let E10 : EN := (15, vo i1 o2)
 let E19 : EN := (23, vo i1 o2)
 let E20 : EN := (24, vo i1 (o2 + 1))
 let S27 : St := ⟨[E5, E1, E2, E3, E4, E6, E7, E8, E9, E10, E11, E12, E13], [], H⟩
 obtain ⟨x4, V5, hF⟩ := bind1_inv hF
 replace V5 := hgetT_inv V5
 let E15 : EN := (16, vi (x4.words_.length : Int))
 let E16 : EN := (20, .agg [(.top, .int .i64 (x4.words_.length : Int)), (.top, .int .i64 p1), (.top, .int .i64 p2), (.top, .int .i64 p3)])
 let E21 : EN := (14, .one (.own 1) (.sl 4 (List.map e_api_Fixup x4.fixups_)))
 let E22 : EN := (21, .one (.own 1) (.sl 4 (List.map e_api_Fixup ([(T_api_Fixup.mk (x4.words_.length : Int) p1 p2 p3)] : List T_api_Fixup))))
 let S29 : St := ⟨[E5, E1, E2, E3, E4, E6, E7, E8, E9, E21, E10, E11, E12, E13], [], (hset H i1 o2 [((.own 1), .sl 1 (List.map (eI .u32) x4.words_)), (.top, .junk), ((.own 1), .sl 2 (List.map e_api_Segment x4.marks_.list_)), ((.own 1), .sl 1 (List.map (eI .i64) x4.pads_)), ((.own 1), .sl 1 (List.map (eI .i64) x4.active_)), (.top, .int .i64 x4.depth_), (.top, .int .i64 x4.most_), (.top, .int .i64 x4.err_)])⟩
 let S30 : St := ⟨[E5, E1, E2, E3, E4, E6, E7, E8, E9, E21, E10, E15, E11, E12, E13, E16], [], (hset H i1 o2 [((.own 1), .sl 1 (List.map (eI .u32) x4.words_)), (.top, .junk), ((.own 1), .sl 2 (List.map e_api_Segment x4.marks_.list_)), ((.own 1), .sl 1 (List.map (eI .i64) x4.pads_)), ((.own 1), .sl 1 (List.map (eI .i64) x4.active_)), (.top, .int .i64 x4.depth_), (.top, .int .i64 x4.most_), (.top, .int .i64 x4.err_)])⟩
 let S31 : St := ⟨[E5, E1, E2, E3, E4, E6, E7, E8, E9, E21, E10, E15, E11, E12, E13, E16, E22], [], (hset H i1 o2 [((.own 1), .sl 1 (List.map (eI .u32) x4.words_)), (.top, .junk), ((.own 1), .sl 2 (List.map e_api_Segment x4.marks_.list_)), ((.own 1), .sl 1 (List.map (eI .i64) x4.pads_)), ((.own 1), .sl 1 (List.map (eI .i64) x4.active_)), (.top, .int .i64 x4.depth_), (.top, .int .i64 x4.most_), (.top, .int .i64 x4.err_)])⟩
 let S33 : St := ⟨[E5, E1, E2, E3, E4, E6, E7, E8, E9, E14, E10, E15, E11, E12, E13, E16, E17], [], (hset H i1 o2 [((.own 1), .sl 1 (List.map (eI .u32) x4.words_)), (.top, .junk), ((.own 1), .sl 2 (List.map e_api_Segment x4.marks_.list_)), ((.own 1), .sl 1 (List.map (eI .i64) x4.pads_)), ((.own 1), .sl 1 (List.map (eI .i64) x4.active_)), (.top, .int .i64 x4.depth_), (.top, .int .i64 x4.most_), (.top, .int .i64 x4.err_)])⟩
 let S36 : St := ⟨[E5, E1, E2, E3, E4, E6, E7, E8, E9, E14, E10, E15, E11, E12, E13, E16, E17, E18, E19, E20], [], (hset H i1 o2 [((.own 1), .sl 1 (List.map (eI .u32) x4.words_)), (.top, .junk), ((.own 1), .sl 2 (List.map e_api_Segment x4.marks_.list_)), ((.own 1), .sl 1 (List.map (eI .i64) x4.pads_)), ((.own 1), .sl 1 (List.map (eI .i64) x4.active_)), (.top, .int .i64 x4.depth_), (.top, .int .i64 x4.most_), (.top, .int .i64 x4.err_)])⟩
 let S37 : St := ⟨[E5, E1, E2, E3, E4, E6, E7, E8, E9, E10, E15, E11, E12, E13, E16], [], H⟩
 let S38 : St := ⟨[E5, E1, E2, E3, E4, E6, E7, E8, E9, E10, E15, E11, E12, E13, E16, E22], [], H⟩
 obtain ⟨v6, h7, hF⟩ := bind1_inv hF
 let E23 : EN := (22, .one (.own 1) (.sl 4 (List.map e_api_Fixup v6)))
 let S28 : St := ⟨[E5, E1, E2, E3, E4, E6, E7, E8, E9, E14, E10, E15, E11, E12, E13, E16, E17, E18, E19, E20], [], (hset H i1 o2 [((.own 1), .sl 1 (List.map (eI .u32) x4.words_)), ((.own 1), .sl 4 (List.map e_api_Fixup v6)), ((.own 1), .sl 2 (List.map e_api_Segment x4.marks_.list_)), ((.own 1), .sl 1 (List.map (eI .i64) x4.pads_)), ((.own 1), .sl 1 (List.map (eI .i64) x4.active_)), (.top, .int .i64 x4.depth_), (.top, .int .i64 x4.most_), (.top, .int .i64 x4.err_)])⟩
 let S32 : St := ⟨[E5, E1, E2, E3, E4, E6, E7, E8, E9, E14, E10, E15, E11, E12, E13, E16, E17, E23], [], (hset H i1 o2 [((.own 1), .sl 1 (List.map (eI .u32) x4.words_)), (.top, .junk), ((.own 1), .sl 2 (List.map e_api_Segment x4.marks_.list_)), ((.own 1), .sl 1 (List.map (eI .i64) x4.pads_)), ((.own 1), .sl 1 (List.map (eI .i64) x4.active_)), (.top, .int .i64 x4.depth_), (.top, .int .i64 x4.most_), (.top, .int .i64 x4.err_)])⟩
 let S34 : St := ⟨[E5, E1, E2, E3, E4, E6, E7, E8, E9, E14, E10, E15, E11, E12, E13, E16, E17, E23, E19], [], (hset H i1 o2 [((.own 1), .sl 1 (List.map (eI .u32) x4.words_)), (.top, .junk), ((.own 1), .sl 2 (List.map e_api_Segment x4.marks_.list_)), ((.own 1), .sl 1 (List.map (eI .i64) x4.pads_)), ((.own 1), .sl 1 (List.map (eI .i64) x4.active_)), (.top, .int .i64 x4.depth_), (.top, .int .i64 x4.most_), (.top, .int .i64 x4.err_)])⟩
 let S35 : St := ⟨[E5, E1, E2, E3, E4, E6, E7, E8, E9, E14, E10, E15, E11, E12, E13, E16, E17, E23, E19, E20], [], (hset H i1 o2 [((.own 1), .sl 1 (List.map (eI .u32) x4.words_)), (.top, .junk), ((.own 1), .sl 2 (List.map e_api_Segment x4.marks_.list_)), ((.own 1), .sl 1 (List.map (eI .i64) x4.pads_)), ((.own 1), .sl 1 (List.map (eI .i64) x4.active_)), (.top, .int .i64 x4.depth_), (.top, .int .i64 x4.most_), (.top, .int .i64 x4.err_)])⟩
 obtain ⟨H8, h9, hF⟩ := bnd_inv hF
 let S39 : St := ⟨[E5, (27, vo i1 o2), E24], [], H8⟩
 let S40 : St := ⟨[E5, E4, (30, vo i1 o2), (31, vi p4), E25], [], H8⟩
 have V10 : hget H8 i1 o2 8 = some (o_emit_Code (T_emit_Code.mk x4.words_ v6 x4.marks_ x4.pads_ x4.active_ x4.depth_ x4.most_ x4.err_)) := by rw [← h9]; exact hset_get V5 rfl
 let K42 : Sch := .last 11 (.last 12 (.take 13 (.take 14 (.last 15 .done))))
 refine w_regD (.take 0 (.take 1 (.take 2 (.take 3 (.take 5 (.take 7 (.take 8 (.take 9 (.alt 4 (.last 6 (.take 10 K42)) (.last 6 (.take 10 (.alt 4 K42 (.last 11 (.last 4 (.last 12 (.take 13 (.take 14 (.last 15 .done)))))))))))))))))) (by kernel_rfl) (⟨[E5, E1, E4], [], H8⟩ : St) ?_ ?_
 refine d_take ⟨[(0, vp p0), E1, E2, E3, E4, (10, vp p0)], [], H⟩ (by generalize p0 = qp0; cases qp0 <;> kernel_rfl) ?_
 refine d_take ⟨[(0, vp p0), E1, E2, E3, E4, (10, vp p0), (11, vp p0)], [], H⟩ (by generalize p0 = qp0; cases qp0 <;> kernel_rfl) ?_
 refine d_eq (congrArg (fun q => (⟨[(0, vp q), E1, E2, E3, E4, (10, vp q), (11, vp q)], [], H⟩ : St)) h3) ?_
 refine ydk 6 S27 ?_
 refine q_in S28 ?_ ?_
 refine q_alt S29 (st_ldT (X := X) (h2 := (hset H i1 o2 [((.own 1), .sl 1 (List.map (eI .u32) x4.words_)), (.top, .junk), ((.own 1), .sl 2 (List.map e_api_Segment x4.marks_.list_)), ((.own 1), .sl 1 (List.map (eI .i64) x4.pads_)), ((.own 1), .sl 1 (List.map (eI .i64) x4.active_)), (.top, .int .i64 x4.depth_), (.top, .int .i64 x4.most_), (.top, .int .i64 x4.err_)])) S27 128 V5 1 1 false (.one (.own 1) (.sl 4 (List.map e_api_Fixup x4.fixups_))) (some 14) (by kernel_rfl) (by kernel_rfl) (by kernel_rfl) (by kernel_rfl) (by kernel_rfl) (hset_sub0 V5 (Nat.le_of_ble_eq_true rfl)) (by kernel_rfl)) ?_ ?_
 refine q_last ⟨[E5, E1, E2, E3, E4, E6, E7, E8, E9, E21, E10, E15, E11, E12, E13], [], (hset H i1 o2 [((.own 1), .sl 1 (List.map (eI .u32) x4.words_)), (.top, .junk), ((.own 1), .sl 2 (List.map e_api_Segment x4.marks_.list_)), ((.own 1), .sl 1 (List.map (eI .i64) x4.pads_)), ((.own 1), .sl 1 (List.map (eI .i64) x4.active_)), (.top, .int .i64 x4.depth_), (.top, .int .i64 x4.most_), (.top, .int .i64 x4.err_)])⟩ (yc (some 16) true false S29 (len_emit_Code_Here (H := (hset H i1 o2 [((.own 1), .sl 1 (List.map (eI .u32) x4.words_)), (.top, .junk), ((.own 1), .sl 2 (List.map e_api_Segment x4.marks_.list_)), ((.own 1), .sl 1 (List.map (eI .i64) x4.pads_)), ((.own 1), .sl 1 (List.map (eI .i64) x4.active_)), (.top, .int .i64 x4.depth_), (.top, .int .i64 x4.most_), (.top, .int .i64 x4.err_)])) (hset_get V5 rfl))) ?_
 refine yqt S30 ?_
 refine yql S31 ?_
 refine q_last S32 (st_app (X := X) S33 32 h7 128 128 135 4 0 (List.replicate 4 (.top, .int .i64 0)) (.own 1) e_api_Fixup 0 (some 22) (by kernel_rfl) (by kernel_rfl) (by kernel_rfl) (by kernel_rfl) (by kernel_rfl) (by kernel_rfl) (by kernel_rfl) (by kernel_rfl) (by kernel_rfl) (fun _ => rfl) (by kernel_rfl)) ?_
 refine yqt S34 ?_
 refine yqt S35 ?_
 refine q_last S28 (st_st (X := X) (lc := []) (h2 := (hset H i1 o2 [((.own 1), .sl 1 (List.map (eI .u32) x4.words_)), ((.own 1), .sl 4 (List.map e_api_Fixup v6)), ((.own 1), .sl 2 (List.map e_api_Segment x4.marks_.list_)), ((.own 1), .sl 1 (List.map (eI .i64) x4.pads_)), ((.own 1), .sl 1 (List.map (eI .i64) x4.active_)), (.top, .int .i64 x4.depth_), (.top, .int .i64 x4.most_), (.top, .int .i64 x4.err_)])) S36 128 (hset_get V5 rfl) 1 1 (.one (.own 1) (.sl 4 (List.map e_api_Fixup v6))) (by kernel_rfl) (by kernel_rfl) (by kernel_rfl) (by kernel_rfl) (by kernel_rfl) (by kernel_rfl) (hset_sub V5 rfl (Nat.le_of_ble_eq_true rfl)) (by kernel_rfl)) ?_
 exact yqe
 refine q_last ⟨[E5, E1, E2, E3, E4, E6, E7, E8, E9, E10, E15, E11, E12, E13], [], H⟩ (yc (some 16) true false S27 (len_emit_Code_Here (H := H) V5)) ?_
 refine yqt S37 ?_
 refine q_alt S30 (st_ldT (X := X) (h2 := (hset H i1 o2 [((.own 1), .sl 1 (List.map (eI .u32) x4.words_)), (.top, .junk), ((.own 1), .sl 2 (List.map e_api_Segment x4.marks_.list_)), ((.own 1), .sl 1 (List.map (eI .i64) x4.pads_)), ((.own 1), .sl 1 (List.map (eI .i64) x4.active_)), (.top, .int .i64 x4.depth_), (.top, .int .i64 x4.most_), (.top, .int .i64 x4.err_)])) S37 128 V5 1 1 false (.one (.own 1) (.sl 4 (List.map e_api_Fixup x4.fixups_))) (some 14) (by kernel_rfl) (by kernel_rfl) (by kernel_rfl) (by kernel_rfl) (by kernel_rfl) (hset_sub0 V5 (Nat.le_of_ble_eq_true rfl)) (by kernel_rfl)) ?_ ?_
 refine yql S31 ?_
 refine q_last S32 (st_app (X := X) S33 32 h7 128 128 135 4 0 (List.replicate 4 (.top, .int .i64 0)) (.own 1) e_api_Fixup 0 (some 22) (by kernel_rfl) (by kernel_rfl) (by kernel_rfl) (by kernel_rfl) (by kernel_rfl) (by kernel_rfl) (by kernel_rfl) (by kernel_rfl) (by kernel_rfl) (fun _ => rfl) (by kernel_rfl)) ?_
 refine yqt S34 ?_
 refine yqt S35 ?_
 refine q_last S28 (st_st (X := X) (lc := []) (h2 := (hset H i1 o2 [((.own 1), .sl 1 (List.map (eI .u32) x4.words_)), ((.own 1), .sl 4 (List.map e_api_Fixup v6)), ((.own 1), .sl 2 (List.map e_api_Segment x4.marks_.list_)), ((.own 1), .sl 1 (List.map (eI .i64) x4.pads_)), ((.own 1), .sl 1 (List.map (eI .i64) x4.active_)), (.top, .int .i64 x4.depth_), (.top, .int .i64 x4.most_), (.top, .int .i64 x4.err_)])) S36 128 (hset_get V5 rfl) 1 1 (.one (.own 1) (.sl 4 (List.map e_api_Fixup v6))) (by kernel_rfl) (by kernel_rfl) (by kernel_rfl) (by kernel_rfl) (by kernel_rfl) (by kernel_rfl) (hset_sub V5 rfl (Nat.le_of_ble_eq_true rfl)) (by kernel_rfl)) ?_
 exact yqe
 refine yql S38 ?_
 refine q_last S31 (st_ldT (X := X) (h2 := (hset H i1 o2 [((.own 1), .sl 1 (List.map (eI .u32) x4.words_)), (.top, .junk), ((.own 1), .sl 2 (List.map e_api_Segment x4.marks_.list_)), ((.own 1), .sl 1 (List.map (eI .i64) x4.pads_)), ((.own 1), .sl 1 (List.map (eI .i64) x4.active_)), (.top, .int .i64 x4.depth_), (.top, .int .i64 x4.most_), (.top, .int .i64 x4.err_)])) S38 128 V5 1 1 false (.one (.own 1) (.sl 4 (List.map e_api_Fixup x4.fixups_))) (some 14) (by kernel_rfl) (by kernel_rfl) (by kernel_rfl) (by kernel_rfl) (by kernel_rfl) (hset_sub0 V5 (Nat.le_of_ble_eq_true rfl)) (by kernel_rfl)) ?_
 refine q_last S32 (st_app (X := X) S33 32 h7 128 128 135 4 0 (List.replicate 4 (.top, .int .i64 0)) (.own 1) e_api_Fixup 0 (some 22) (by kernel_rfl) (by kernel_rfl) (by kernel_rfl) (by kernel_rfl) (by kernel_rfl) (by kernel_rfl) (by kernel_rfl) (by kernel_rfl) (by kernel_rfl) (fun _ => rfl) (by kernel_rfl)) ?_
 refine yqt S34 ?_
 refine yqt S35 ?_
 refine q_last S28 (st_st (X := X) (lc := []) (h2 := (hset H i1 o2 [((.own 1), .sl 1 (List.map (eI .u32) x4.words_)), ((.own 1), .sl 4 (List.map e_api_Fixup v6)), ((.own 1), .sl 2 (List.map e_api_Segment x4.marks_.list_)), ((.own 1), .sl 1 (List.map (eI .i64) x4.pads_)), ((.own 1), .sl 1 (List.map (eI .i64) x4.active_)), (.top, .int .i64 x4.depth_), (.top, .int .i64 x4.most_), (.top, .int .i64 x4.err_)])) S36 128 (hset_get V5 rfl) 1 1 (.one (.own 1) (.sl 4 (List.map e_api_Fixup v6))) (by kernel_rfl) (by kernel_rfl) (by kernel_rfl) (by kernel_rfl) (by kernel_rfl) (by kernel_rfl) (hset_sub V5 rfl (Nat.le_of_ble_eq_true rfl)) (by kernel_rfl)) ?_
 exact yqe
 refine eq_via (congrArg (fun q => (⟨[E5, E1, E2, E3, E4, E6, E7, E8, E9, E14, E10, E15, E11, E12, E13, E16, E17, E18, E19, E20], [], q⟩ : St)) h9) ?_
 kernel_rfl
 refine w_seq ?_
 refine ysg ⟨[E5, E4, (26, vb (p1 == 3))], [], H8⟩ ?_
 rcases if_inv hF with ⟨h11, hF⟩ | ⟨h11, hF⟩
 refine yT h11 ⟨[E5], [], H8⟩ ?_
 refine w_seq ?_
 obtain ⟨H14, r12, c13, hF⟩ := bind2_inv hF
 refine w_regO ⟨[], [], H14⟩ ?_ ?_
 refine yr 2 S39 ?_
 refine o_one ⟨[E5, (27, vo i1 o2), E24, (29, vi r12)], [], H14⟩ (yc (some 29) false false S39 (ok_emit_Code_Put H8 c13)) ?_
 exact ye
 refine w_ret ?_
 obtain e0 := some1_inv hF
 subst e0
 exact yi (vN)
 refine yF h11 ⟨[E5, E4], [], H8⟩ ?_
 refine w_skip ?_
 refine w_seq ?_
 obtain ⟨H17, r15, c16, hF⟩ := bind2_inv hF
 let S41 : St := ⟨[E5, E4, (34, vo i1 o2), (35, vi p4), (36, vi p4), E26], [], H17⟩
 refine w_regO ⟨[E5, E4], [], H17⟩ ?_ ?_
 refine yr 3 S40 ?_
 refine o_one ⟨[E5, E4, (30, vo i1 o2), (31, vi p4), E25, (33, vi r15)], [], H17⟩ (yc (some 33) false false S40 (ok_emit_Code_Put H8 c16)) ?_
 exact ye
 obtain ⟨H20, r18, c19, hF⟩ := bind2_inv hF
 refine w_regO ⟨[], [], H20⟩ ?_ ?_
 refine yr 4 S41 ?_
 refine o_one ⟨[E5, E4, (34, vo i1 o2), (35, vi p4), (36, vi p4), E26, (38, vi r18)], [], H20⟩ (yc (some 38) false false S41 (ok_emit_Code_Put H17 c19)) ?_
 exact ye
 obtain e0 := some1_inv hF
 subst e0
 exact yi (vN)
noncomputable def item_Gen_Call_j1 (p1 : T_scope_Object) (j1 : Ptr) (H2 : Heap) : Option (Heap) :=
  (j1).bnd fun i3 o4 =>
  bind1 (get_item_Gen H2 i3 o4) fun x6 =>
  bind1 (emit_Code_Drop H2 x6.Code_ (IntKind.wrap .i64 ((p1.Params_.length : Int) + 1))) fun H9 =>
  some H9
noncomputable def item_Gen_Call (H : Heap) (p0 : Ptr) (p1 : T_scope_Object) : Option (Heap) :=
  if (decide (p1.Module_ > 0)) = true then ((p0).bnd fun i11 o12 =>
  bind1 (get_item_Gen H i11 o12) fun x14 =>
  bind1 (emit_Code_Fix H x14.Code_ 3 p1.Module_ (IntKind.wrap .i64 p1.N_) 0) fun H17 =>
  item_Gen_Call_j1 p1 (Ptr.at i11 o12) H17)
  else ((p0).bnd fun i18 o19 =>
  bind1 (get_item_Gen H i18 o19) fun x21 =>
  bind1 (emit_Code_Back H x21.Code_ 23 0 (IntKind.wrap .i64 p1.N_)) fun H24 =>
  item_Gen_Call_j1 p1 (Ptr.at i18 o19) H24)
theorem ok_item_Gen_Call (H : Heap) {p0 : Ptr} {p1 : T_scope_Object} {Hr : Heap} (hF : item_Gen_Call H p0 p1 = some Hr) : evS X 50 [.one .top (Ptr.av p0), .agg (m0_scope_Object p1)] H = some (.tup [], Hr) := by
 let E1 : Ptr → EN := fun z0 => (0, vp z0)
 let E2 : EN := (3, vl 3 0)
 let B3 : EB := (3, (m0_scope_Object p1))
 let E8 : EN := (29, vl 3 7)
 let E9 : EN := (30, .one .bl (.sl 2 (List.map e_api_Param p1.Params_)))
 let E10 : EN := (31, vi (p1.Params_.length : Int))
 let E11 : EN := (32, vi (IntKind.wrap .i64 ((p1.Params_.length : Int) + 1)))
 let E16 : EN := (11, vl 3 5)
 let E17 : EN := (12, vi p1.Module_)
 let E18 : EN := (13, vl 3 4)
 let E19 : EN := (14, .one .top (.int .i32 p1.N_))
 let E20 : EN := (15, vi (IntKind.wrap .i64 p1.N_))
 let E25 : EN := (21, vl 3 4)
 let E26 : EN := (22, .one .top (.int .i32 p1.N_))
 let E27 : EN := (23, vi (IntKind.wrap .i64 p1.N_))
 let S28 : Ptr → St := fun z0 => ⟨[(E1 z0), E2], [B3], H⟩
 refine yf Try.func50 false ⟨[(E1 p0), (1, .agg (m0_scope_Object p1))], [], H⟩ ?_
 unfold item_Gen_Call at hF
 refine ysg (S28 p0) ?_ (h := (by generalize p0 = qp0; cases qp0 <;> kernel_rfl))
 refine w_seq ?_
 refine ysg ⟨[(E1 p0), E2, (6, vb (decide (p1.Module_ > 0)))], [B3], H⟩ ?_ (h := (by generalize p0 = qp0; cases qp0 <;> kernel_rfl))
 refine w_join (α := (Ptr × Heap)) (fun x => (⟨[(0, vp x.1), E2], [B3], x.2⟩ : St)) (fun x => item_Gen_Call_j1 p1 x.1 x.2 = some Hr) ?_ ?_
 rintro ⟨j1, H2⟩ hF
 replace hF : item_Gen_Call_j1 p1 j1 H2 = some Hr := hF
 unfold item_Gen_Call_j1 at hF
 obtain ⟨i3, o4, h5, hF⟩ := pbnd_inv hF
 let E4 : EN := (0, vo i3 o4)
 let E5 : EN := (25, vo i3 o4)
 let E6 : EN := (26, vo i3 o4)
 let E7 : EN := (27, vo i3 o4)
 let S29 : St := ⟨[E4, E2, E5, E6, E7, E8, E9], [B3], H2⟩
 let S30 : St := ⟨[E4, E2, E5, E6, E7, E8, E9, E10, E11], [B3], H2⟩
 obtain ⟨⟨x6a, x6b, ⟨x6c, x6d, x6e, x6f⟩⟩, V7, hF⟩ := bind1_inv hF
 replace V7 := hgetT_inv V7
 let S31 : Ptr → St := fun z0 => ⟨[E4, E2, E5, E6, E7, (28, vp z0), E8, E9, E10, E11], [B3], H2⟩
 obtain ⟨H9, c8, hF⟩ := bind1_inv hF
 refine w_regD (.take 0 (.take 1 (.take 2 (.take 4 (.take 5 (.take 6 (.take 7 (.last 3 (.last 8 .done))))))))) (by kernel_rfl) (⟨[], [], H9⟩ : St) ?_ ?_
 refine d_take ⟨[(0, vp j1), E2, (25, vp j1)], [B3], H2⟩ (by generalize j1 = qp0; cases qp0 <;> kernel_rfl) ?_
 refine d_eq (congrArg (fun q => (⟨[(0, vp q), E2, (25, vp q)], [B3], H2⟩ : St)) h5) ?_
 refine ydk 4 S29 ?_
 refine d_take ⟨[E4, E2, E5, E6, E7, E8, E9, E10], [B3], H2⟩ (yl S29 p1.Params_ e_api_Param (some 31)) ?_
 refine ydt S30 ?_
 refine d_last (S31 x6a) (yd (X := X) S30 26 V7 0 1 false (vp x6a) (some 28) (hs := (by generalize x6a = qp0; cases qp0 <;> kernel_rfl))) ?_
 refine d_last ⟨[E4, E2, E5, E6, E7, (28, vp x6a), E8, E9, E10, E11, (33, vN)], [B3], H9⟩ (yc (some 33) false false (S31 x6a) (ok_emit_Code_Drop H2 c8) (hr := (by generalize x6a = qp0; cases qp0 <;> kernel_rfl)) (hs := (by generalize x6a = qp0; cases qp0 <;> kernel_rfl))) ?_
 exact yde
 obtain e0 := some1_inv hF
 subst e0
 exact yi (vN)
 rcases if_inv hF with ⟨h10, hF⟩ | ⟨h10, hF⟩
 refine yT h10 (S28 p0) ?_
 obtain ⟨i11, o12, h13, hF⟩ := pbnd_inv hF
 let E12 : EN := (0, vo i11 o12)
 let E13 : EN := (7, vo i11 o12)
 let E14 : EN := (8, vo i11 o12)
 let E15 : EN := (9, vo i11 o12)
 let S32 : St := ⟨[E12, E2, E13, E14, E15, E16, E17, E18, E19, E20], [B3], H⟩
 obtain ⟨⟨x14a, x14b, ⟨x14c, x14d, x14e, x14f⟩⟩, V15, hF⟩ := bind1_inv hF
 replace V15 := hgetT_inv V15
 let S33 : Ptr → St := fun z0 => ⟨[E12, E2, E13, E14, E15, (10, vp z0), E16, E17, E18, E19, E20], [B3], H⟩
 obtain ⟨H17, c16, hF⟩ := bind1_inv hF
 refine w_regD (.take 0 (.take 1 (.take 2 (.take 4 (.take 5 (.take 6 (.take 7 (.take 8 (.last 3 (.last 9 .done)))))))))) (by kernel_rfl) (⟨[E12, E2], [B3], H17⟩ : St) ?_ ?_
 refine d_take ⟨[(E1 p0), E2, (7, vp p0)], [B3], H⟩ (by generalize p0 = qp0; cases qp0 <;> kernel_rfl) ?_
 refine d_eq (congrArg (fun q => (⟨[(0, vp q), E2, (7, vp q)], [B3], H⟩ : St)) h13) ?_
 refine ydk 7 S32 ?_
 refine d_last (S33 x14a) (yd (X := X) S32 26 V15 0 1 false (vp x14a) (some 10) (hs := (by generalize x14a = qp0; cases qp0 <;> kernel_rfl))) ?_
 refine d_last ⟨[E12, E2, E13, E14, E15, (10, vp x14a), E16, E17, E18, E19, E20, (16, vN)], [B3], H17⟩ (yc (some 16) false false (S33 x14a) (ok_emit_Code_Fix H c16) (hr := (by generalize x14a = qp0; cases qp0 <;> kernel_rfl)) (hs := (by generalize x14a = qp0; cases qp0 <;> kernel_rfl))) ?_
 exact yde
 exact ⟨((Ptr.at i11 o12), H17), hF, (by kernel_rfl)⟩
 refine yF h10 (S28 p0) ?_
 obtain ⟨i18, o19, h20, hF⟩ := pbnd_inv hF
 let E21 : EN := (0, vo i18 o19)
 let E22 : EN := (17, vo i18 o19)
 let E23 : EN := (18, vo i18 o19)
 let E24 : EN := (19, vo i18 o19)
 let S34 : St := ⟨[E21, E2, E22, E23, E24, E25, E26, E27], [B3], H⟩
 obtain ⟨⟨x21a, x21b, ⟨x21c, x21d, x21e, x21f⟩⟩, V22, hF⟩ := bind1_inv hF
 replace V22 := hgetT_inv V22
 let S35 : Ptr → St := fun z0 => ⟨[E21, E2, E22, E23, E24, (20, vp z0), E25, E26, E27], [B3], H⟩
 obtain ⟨H24, c23, hF⟩ := bind1_inv hF
 refine w_regD (.take 0 (.take 1 (.take 2 (.take 4 (.take 5 (.take 6 (.last 3 (.last 7 .done)))))))) (by kernel_rfl) (⟨[E21, E2], [B3], H24⟩ : St) ?_ ?_
 refine d_take ⟨[(E1 p0), E2, (17, vp p0)], [B3], H⟩ (by generalize p0 = qp0; cases qp0 <;> kernel_rfl) ?_
 refine d_eq (congrArg (fun q => (⟨[(0, vp q), E2, (17, vp q)], [B3], H⟩ : St)) h20) ?_
 refine ydk 5 S34 ?_
 refine d_last (S35 x21a) (yd (X := X) S34 26 V22 0 1 false (vp x21a) (some 20) (hs := (by generalize x21a = qp0; cases qp0 <;> kernel_rfl))) ?_
 refine d_last ⟨[E21, E2, E22, E23, E24, (20, vp x21a), E25, E26, E27, (24, vN)], [B3], H24⟩ (yc (some 24) false false (S35 x21a) (ok_emit_Code_Back H c23) (hr := (by generalize x21a = qp0; cases qp0 <;> kernel_rfl)) (hs := (by generalize x21a = qp0; cases qp0 <;> kernel_rfl))) ?_
 exact yde
 exact ⟨((Ptr.at i18 o19), H24), hF, (by kernel_rfl)⟩
noncomputable def item_Gen_Exception (H : Heap) (p0 : Ptr) (p1 : T_scope_Object) (p2 : Int) : Option (Heap) :=
  if (decide (p1.Module_ < 0)) = true then ((p0).bnd fun i2 o3 =>
  bind1 (get_item_Gen H i2 o3) fun x5 =>
  bind1 (emit_Code_Number H x5.Code_ p2 p1.N_) fun H8 =>
  some H8)
  else ((p0).bnd fun i9 o10 =>
  bind1 (get_item_Gen H i9 o10) fun x12 =>
  bind1 (emit_Code_Fix H x12.Code_ 2 p1.Module_ (IntKind.wrap .i64 p1.N_) p2) fun H15 =>
  some H15)
theorem ok_item_Gen_Exception (H : Heap) {p0 : Ptr} {p1 : T_scope_Object} {p2 : Int} {Hr : Heap} (hF : item_Gen_Exception H p0 p1 p2 = some Hr) : evS X 51 [.one .top (Ptr.av p0), .agg (m0_scope_Object p1), .one .top (.int .i64 p2)] H = some (.tup [], Hr) := by
 let E1 : Ptr → EN := fun z0 => (0, vp z0)
 let E2 : EN := (2, vi p2)
 let E3 : EN := (4, vl 4 0)
 let B4 : EB := (4, (m0_scope_Object p1))
 let E9 : EN := (13, vi p2)
 let E10 : EN := (14, vl 4 4)
 let E11 : EN := (15, .one .top (.int .i32 p1.N_))
 let E16 : EN := (21, vl 4 5)
 let E17 : EN := (22, vi p1.Module_)
 let E18 : EN := (23, vl 4 4)
 let E19 : EN := (24, .one .top (.int .i32 p1.N_))
 let E20 : EN := (25, vi (IntKind.wrap .i64 p1.N_))
 let E21 : EN := (26, vi p2)
 let S22 : Ptr → St := fun z0 => ⟨[(E1 z0), E2, E3], [B4], H⟩
 refine yf Try.func51 false ⟨[(E1 p0), (1, .agg (m0_scope_Object p1)), E2], [], H⟩ ?_
 unfold item_Gen_Exception at hF
 refine ysg (S22 p0) ?_ (h := (by generalize p0 = qp0; cases qp0 <;> kernel_rfl))
 refine w_seq ?_
 refine ysg ⟨[(E1 p0), E2, E3, (8, vb (decide (p1.Module_ < 0)))], [B4], H⟩ ?_ (h := (by generalize p0 = qp0; cases qp0 <;> kernel_rfl))
 rcases if_inv hF with ⟨h1, hF⟩ | ⟨h1, hF⟩
 refine yT h1 (S22 p0) ?_
 refine w_seq ?_
 obtain ⟨i2, o3, h4, hF⟩ := pbnd_inv hF
 let E5 : EN := (0, vo i2 o3)
 let E6 : EN := (9, vo i2 o3)
 let E7 : EN := (10, vo i2 o3)
 let E8 : EN := (11, vo i2 o3)
 let S23 : St := ⟨[E5, E2, E3, E6, E7, E8, E9, E10, E11], [B4], H⟩
 obtain ⟨⟨x5a, x5b, ⟨x5c, x5d, x5e, x5f⟩⟩, V6, hF⟩ := bind1_inv hF
 replace V6 := hgetT_inv V6
 let S24 : Ptr → St := fun z0 => ⟨[E5, E2, E3, E6, E7, E8, (12, vp z0), E9, E10, E11], [B4], H⟩
 obtain ⟨H8, c7, hF⟩ := bind1_inv hF
 refine w_regD (.take 0 (.take 1 (.take 2 (.take 4 (.take 5 (.take 6 (.last 3 (.last 7 .done)))))))) (by kernel_rfl) (⟨[], [], H8⟩ : St) ?_ ?_
 refine d_take ⟨[(E1 p0), E2, E3, (9, vp p0)], [B4], H⟩ (by generalize p0 = qp0; cases qp0 <;> kernel_rfl) ?_
 refine d_eq (congrArg (fun q => (⟨[(0, vp q), E2, E3, (9, vp q)], [B4], H⟩ : St)) h4) ?_
 refine ydk 5 S23 ?_
 refine d_last (S24 x5a) (yd (X := X) S23 26 V6 0 1 false (vp x5a) (some 12) (hs := (by generalize x5a = qp0; cases qp0 <;> kernel_rfl))) ?_
 refine d_last ⟨[E5, E2, E3, E6, E7, E8, (12, vp x5a), E9, E10, E11, (16, vN)], [B4], H8⟩ (yc (some 16) false false (S24 x5a) (ok_emit_Code_Number H c7) (hr := (by generalize x5a = qp0; cases qp0 <;> kernel_rfl)) (hs := (by generalize x5a = qp0; cases qp0 <;> kernel_rfl))) ?_
 exact yde
 refine w_ret ?_
 obtain e0 := some1_inv hF
 subst e0
 exact yi (vN)
 refine yF h1 (S22 p0) ?_
 refine w_skip ?_
 obtain ⟨i9, o10, h11, hF⟩ := pbnd_inv hF
 let E12 : EN := (0, vo i9 o10)
 let E13 : EN := (17, vo i9 o10)
 let E14 : EN := (18, vo i9 o10)
 let E15 : EN := (19, vo i9 o10)
 let S25 : St := ⟨[E12, E2, E3, E13, E14, E15, E16, E17, E18, E19, E20, E21], [B4], H⟩
 obtain ⟨⟨x12a, x12b, ⟨x12c, x12d, x12e, x12f⟩⟩, V13, hF⟩ := bind1_inv hF
 replace V13 := hgetT_inv V13
 let S26 : Ptr → St := fun z0 => ⟨[E12, E2, E3, E13, E14, E15, (20, vp z0), E16, E17, E18, E19, E20, E21], [B4], H⟩
 obtain ⟨H15, c14, hF⟩ := bind1_inv hF
 refine w_regD (.take 0 (.take 1 (.take 2 (.take 4 (.take 5 (.take 6 (.take 7 (.take 8 (.take 9 (.last 3 (.last 10 .done))))))))))) (by kernel_rfl) (⟨[], [], H15⟩ : St) ?_ ?_
 refine d_take ⟨[(E1 p0), E2, E3, (17, vp p0)], [B4], H⟩ (by generalize p0 = qp0; cases qp0 <;> kernel_rfl) ?_
 refine d_eq (congrArg (fun q => (⟨[(0, vp q), E2, E3, (17, vp q)], [B4], H⟩ : St)) h11) ?_
 refine ydk 8 S25 ?_
 refine d_last (S26 x12a) (yd (X := X) S25 26 V13 0 1 false (vp x12a) (some 20) (hs := (by generalize x12a = qp0; cases qp0 <;> kernel_rfl))) ?_
 refine d_last ⟨[E12, E2, E3, E13, E14, E15, (20, vp x12a), E16, E17, E18, E19, E20, E21, (27, vN)], [B4], H15⟩ (yc (some 27) false false (S26 x12a) (ok_emit_Code_Fix H c14) (hr := (by generalize x12a = qp0; cases qp0 <;> kernel_rfl)) (hs := (by generalize x12a = qp0; cases qp0 <;> kernel_rfl))) ?_
 exact yde
 obtain e0 := some1_inv hF
 subst e0
 exact yi (vN)
noncomputable def law19_stopped  (p0 : T_ref04_Cpu) (p1 : Int) (p2 : Int) (p3 : Int) : Option (Bool) :=
  if ((p0.State_ != 1) || (p0.Cause_ != p3)) = true then (some false)
  else (some ((p3 != 0) || (((IntKind.wrap .i32 (p0.R_.g 0)) == p2) && (((p0.R_.g 15) == (IntKind.wrap .u32 (IntKind.wrap .i64 ((IntKind.wrap .i64 (4 * p1)) + 256)))) && ((p0.R_.g 13) == (IntKind.wrap .u32 (IntKind.wrap .i64 ((IntKind.wrap .i64 (4 * p1)) + 192))))))))
theorem ok_law19_stopped (H : Heap) {p0 : T_ref04_Cpu} {p1 : Int} {p2 : Int} {p3 : Int} {ra : Bool} (hF : law19_stopped p0 p1 p2 p3 = some ra) : evS X 23 [.agg (m1_ref04_Cpu p0), .one .top (.int .i64 p1), .one .top (.int .i32 p2), .one .top (.int .u32 p3)] H = some (.one .top (.bool ra), H) := by
 let E1 : EN := (1, vi p1)
 let E2 : EN := (2, .one .top (.int .i32 p2))
 let E3 : EN := (3, vu p3)
 let E4 : EN := (4, vl 4 0)
 let B5 : EB := (4, (m1_ref04_Cpu p0))
 let E6 : EN := (9, vl 4 19)
 let E7 : EN := (10, vi p0.State_)
 let E8 : EN := (18, vu p3)
 let E9 : EN := (19, vF)
 let E10 : EN := (20, vF)
 let E11 : EN := (21, vl 4 0)
 let E12 : EN := (22, vl 4 0)
 let E13 : EN := (23, vu (p0.R_.g 0))
 let E14 : EN := (24, .one .top (.int .i32 (IntKind.wrap .i32 (p0.R_.g 0))))
 let E15 : EN := (25, .one .top (.int .i32 p2))
 let E16 : EN := (28, vl 4 0)
 let E17 : EN := (29, vl 4 15)
 let E18 : EN := (30, vu (p0.R_.g 15))
 let E19 : EN := (31, vi p1)
 let E20 : EN := (32, vi (IntKind.wrap .i64 (4 * p1)))
 let E21 : EN := (33, vi (IntKind.wrap .i64 ((IntKind.wrap .i64 (4 * p1)) + 256)))
 let E22 : EN := (34, vu (IntKind.wrap .u32 (IntKind.wrap .i64 ((IntKind.wrap .i64 (4 * p1)) + 256))))
 let S23 : St := ⟨[E1, E2, E3, E4], [B5], H⟩
 refine yf Try.func23 true ⟨[(0, .agg (m1_ref04_Cpu p0)), E1, E2, E3], [], H⟩ ?_
 unfold law19_stopped at hF
 refine ysg S23 ?_
 refine w_seq ?_
 refine yso ⟨[E1, E2, E3, E4, (17, vb ((p0.State_ != 1) || (p0.Cause_ != p3)))], [B5], H⟩ ?_ ?_
 refine yr 4 ⟨[E1, E2, E3, E4, E6, E7, (11, vb (p0.State_ != 1)), (12, vb (p0.State_ != 1))], [B5], H⟩ ?_
 rcases bool_cases (p0.State_ != 1) with h1 | h1
 refine o_eq (congrArg (fun q => (⟨[E1, E2, E3, E4, E6, E7, (11, vb q), (12, vb q)], [B5], H⟩ : St)) h1) ?_
 refine yr 5 ⟨[E1, E2, E3, E4, E6, E7, (11, vT), (12, vT), (13, vN), (14, vN), (15, vN), (16, vN), (17, vT)], [B5], H⟩ ?_
 refine o_eq2 (congrArg (fun q0 => (⟨[E1, E2, E3, E4, (17, vb q0)], [B5], H⟩ : St)) (show true = ((p0.State_ != 1) || (p0.Cause_ != p3)) by simp [h1])) ?_
 exact ye
 refine o_eq (congrArg (fun q => (⟨[E1, E2, E3, E4, E6, E7, (11, vb q), (12, vb q)], [B5], H⟩ : St)) h1) ?_
 refine yr 5 ⟨[E1, E2, E3, E4, E6, E7, (11, vF), (12, vF), (13, vl 4 18), (14, vu p0.Cause_), (15, vu p3), (16, vb (p0.Cause_ != p3)), (17, vb (p0.Cause_ != p3))], [B5], H⟩ ?_
 refine o_eq2 (congrArg (fun q0 => (⟨[E1, E2, E3, E4, (17, vb q0)], [B5], H⟩ : St)) (show (p0.Cause_ != p3) = ((p0.State_ != 1) || (p0.Cause_ != p3)) by simp [h1])) ?_
 exact ye
 rcases if_inv hF with ⟨h2, hF⟩ | ⟨h2, hF⟩
 refine yT h2 ⟨[], [], H⟩ ?_
 refine ysg ⟨[(8, vF)], [], H⟩ ?_
 refine w_ret ?_
 obtain e0 := some1_inv hF
 subst e0
 exact yp (vF)
 refine yF h2 S23 ?_
 refine w_skip ?_
 refine yso ⟨[(8, vb ((p3 != 0) || (((IntKind.wrap .i32 (p0.R_.g 0)) == p2) && (((p0.R_.g 15) == (IntKind.wrap .u32 (IntKind.wrap .i64 ((IntKind.wrap .i64 (4 * p1)) + 256)))) && ((p0.R_.g 13) == (IntKind.wrap .u32 (IntKind.wrap .i64 ((IntKind.wrap .i64 (4 * p1)) + 192))))))))], [], H⟩ ?_ ?_
 refine yr 3 ⟨[E1, E2, E3, E4, E8, (19, vb (p3 != 0)), (20, vb (p3 != 0))], [B5], H⟩ ?_
 rcases bool_cases (p3 != 0) with h3 | h3
 refine o_eq (congrArg (fun q => (⟨[E1, E2, E3, E4, E8, (19, vb q), (20, vb q)], [B5], H⟩ : St)) h3) ?_
 refine yr 28 ⟨[E1, E2, E3, E4, (8, vT), E8, (19, vT), (20, vT), (21, vN), (22, vN), (23, vN), (24, vN), (25, vN), (26, vN), (27, vN), (28, vN), (29, vN), (30, vN), (31, vN), (32, vN), (33, vN), (34, vN), (35, vN), (36, vN), (37, vN), (38, vN), (39, vN), (40, vN), (41, vN), (42, vN), (43, vN), (44, vN), (45, vN), (46, vN), (47, vT)], [B5], H⟩ ?_
 refine o_eq2 (congrArg (fun q0 => (⟨[(8, vb q0)], [], H⟩ : St)) (show true = ((p3 != 0) || (((IntKind.wrap .i32 (p0.R_.g 0)) == p2) && (((p0.R_.g 15) == (IntKind.wrap .u32 (IntKind.wrap .i64 ((IntKind.wrap .i64 (4 * p1)) + 256)))) && ((p0.R_.g 13) == (IntKind.wrap .u32 (IntKind.wrap .i64 ((IntKind.wrap .i64 (4 * p1)) + 192))))))) by simp [h3])) ?_
 exact ye
 refine o_eq (congrArg (fun q => (⟨[E1, E2, E3, E4, E8, (19, vb q), (20, vb q)], [B5], H⟩ : St)) h3) ?_
 refine yr 7 ⟨[E1, E2, E3, E4, E8, E9, E10, E11, E12, E13, E14, E15, (26, vb ((IntKind.wrap .i32 (p0.R_.g 0)) == p2)), (27, vb ((IntKind.wrap .i32 (p0.R_.g 0)) == p2))], [B5], H⟩ ?_
 rcases bool_cases ((IntKind.wrap .i32 (p0.R_.g 0)) == p2) with h4 | h4
 refine o_eq (congrArg (fun q => (⟨[E1, E2, E3, E4, E8, E9, E10, E11, E12, E13, E14, E15, (26, vb q), (27, vb q)], [B5], H⟩ : St)) h4) ?_
 refine yr 10 ⟨[E1, E2, E3, E4, E8, E9, E10, E11, E12, E13, E14, E15, (26, vT), (27, vT), E16, E17, E18, E19, E20, E21, E22, (35, vb ((p0.R_.g 15) == (IntKind.wrap .u32 (IntKind.wrap .i64 ((IntKind.wrap .i64 (4 * p1)) + 256))))), (36, vb ((p0.R_.g 15) == (IntKind.wrap .u32 (IntKind.wrap .i64 ((IntKind.wrap .i64 (4 * p1)) + 256))))), (37, vb ((p0.R_.g 15) == (IntKind.wrap .u32 (IntKind.wrap .i64 ((IntKind.wrap .i64 (4 * p1)) + 256)))))], [B5], H⟩ ?_
 rcases bool_cases ((p0.R_.g 15) == (IntKind.wrap .u32 (IntKind.wrap .i64 ((IntKind.wrap .i64 (4 * p1)) + 256)))) with h5 | h5
 refine o_eq (congrArg (fun q => (⟨[E1, E2, E3, E4, E8, E9, E10, E11, E12, E13, E14, E15, (26, vT), (27, vT), E16, E17, E18, E19, E20, E21, E22, (35, vb q), (36, vb q), (37, vb q)], [B5], H⟩ : St)) h5) ?_
 refine yr 11 ⟨[E1, E2, E3, E4, (8, vb ((p0.R_.g 13) == (IntKind.wrap .u32 (IntKind.wrap .i64 ((IntKind.wrap .i64 (4 * p1)) + 192))))), E8, E9, E10, E11, E12, E13, E14, E15, (26, vT), (27, vT), E16, E17, E18, E19, E20, E21, E22, (35, vT), (36, vT), (37, vT), (38, vl 4 0), (39, vl 4 13), (40, vu (p0.R_.g 13)), (41, vi p1), (42, vi (IntKind.wrap .i64 (4 * p1))), (43, vi (IntKind.wrap .i64 ((IntKind.wrap .i64 (4 * p1)) + 192))), (44, vu (IntKind.wrap .u32 (IntKind.wrap .i64 ((IntKind.wrap .i64 (4 * p1)) + 192)))), (45, vb ((p0.R_.g 13) == (IntKind.wrap .u32 (IntKind.wrap .i64 ((IntKind.wrap .i64 (4 * p1)) + 192))))), (46, vb ((p0.R_.g 13) == (IntKind.wrap .u32 (IntKind.wrap .i64 ((IntKind.wrap .i64 (4 * p1)) + 192))))), (47, vb ((p0.R_.g 13) == (IntKind.wrap .u32 (IntKind.wrap .i64 ((IntKind.wrap .i64 (4 * p1)) + 192)))))], [B5], H⟩ ?_
 refine o_eq2 (congrArg (fun q0 => (⟨[(8, vb q0)], [], H⟩ : St)) (show ((p0.R_.g 13) == (IntKind.wrap .u32 (IntKind.wrap .i64 ((IntKind.wrap .i64 (4 * p1)) + 192)))) = ((p3 != 0) || (((IntKind.wrap .i32 (p0.R_.g 0)) == p2) && (((p0.R_.g 15) == (IntKind.wrap .u32 (IntKind.wrap .i64 ((IntKind.wrap .i64 (4 * p1)) + 256)))) && ((p0.R_.g 13) == (IntKind.wrap .u32 (IntKind.wrap .i64 ((IntKind.wrap .i64 (4 * p1)) + 192))))))) by simp [h3, h4, h5])) ?_
 exact ye
 refine o_eq (congrArg (fun q => (⟨[E1, E2, E3, E4, E8, E9, E10, E11, E12, E13, E14, E15, (26, vT), (27, vT), E16, E17, E18, E19, E20, E21, E22, (35, vb q), (36, vb q), (37, vb q)], [B5], H⟩ : St)) h5) ?_
 refine yr 11 ⟨[E1, E2, E3, E4, (8, vF), E8, E9, E10, E11, E12, E13, E14, E15, (26, vT), (27, vT), E16, E17, E18, E19, E20, E21, E22, (35, vF), (36, vF), (37, vF), (38, vN), (39, vN), (40, vN), (41, vN), (42, vN), (43, vN), (44, vN), (45, vN), (46, vF), (47, vF)], [B5], H⟩ ?_
 refine o_eq2 (congrArg (fun q0 => (⟨[(8, vb q0)], [], H⟩ : St)) (show false = ((p3 != 0) || (((IntKind.wrap .i32 (p0.R_.g 0)) == p2) && (((p0.R_.g 15) == (IntKind.wrap .u32 (IntKind.wrap .i64 ((IntKind.wrap .i64 (4 * p1)) + 256)))) && ((p0.R_.g 13) == (IntKind.wrap .u32 (IntKind.wrap .i64 ((IntKind.wrap .i64 (4 * p1)) + 192))))))) by simp [h3, h4, h5])) ?_
 exact ye
 refine o_eq (congrArg (fun q => (⟨[E1, E2, E3, E4, E8, E9, E10, E11, E12, E13, E14, E15, (26, vb q), (27, vb q)], [B5], H⟩ : St)) h4) ?_
 refine yr 21 ⟨[E1, E2, E3, E4, (8, vF), E8, E9, E10, E11, E12, E13, E14, E15, (26, vF), (27, vF), (28, vN), (29, vN), (30, vN), (31, vN), (32, vN), (33, vN), (34, vN), (35, vN), (36, vF), (37, vF), (38, vN), (39, vN), (40, vN), (41, vN), (42, vN), (43, vN), (44, vN), (45, vN), (46, vF), (47, vF)], [B5], H⟩ ?_
 refine o_eq2 (congrArg (fun q0 => (⟨[(8, vb q0)], [], H⟩ : St)) (show false = ((p3 != 0) || (((IntKind.wrap .i32 (p0.R_.g 0)) == p2) && (((p0.R_.g 15) == (IntKind.wrap .u32 (IntKind.wrap .i64 ((IntKind.wrap .i64 (4 * p1)) + 256)))) && ((p0.R_.g 13) == (IntKind.wrap .u32 (IntKind.wrap .i64 ((IntKind.wrap .i64 (4 * p1)) + 192))))))) by simp [h3, h4])) ?_
 exact ye
 refine w_ret ?_
 obtain e0 := some1_inv hF
 subst e0
 exact yp (vb ((p3 != 0) || (((IntKind.wrap .i32 (p0.R_.g 0)) == p2) && (((p0.R_.g 15) == (IntKind.wrap .u32 (IntKind.wrap .i64 ((IntKind.wrap .i64 (4 * p1)) + 256)))) && ((p0.R_.g 13) == (IntKind.wrap .u32 (IntKind.wrap .i64 ((IntKind.wrap .i64 (4 * p1)) + 192))))))))
noncomputable def law19_ItemCalls (H : Heap) (p0 : Int) (p1 : Int) (p2 : Int) : Option (Heap × Bool) :=
  bind2 (law19_awake H) fun H3 r1 =>
  if (!r1) = true then (some (H3, false))
  else (bind2 (law19_begun H3) fun H7 r5 =>
  (r5).bnd fun i8 o9 =>
  bind1 (get_item_Gen H7 i8 o9) fun x11 =>
  bind2 (emit_Code_Jump H7 x11.Code_ 22 0) fun H15 r13 =>
  bind1 (get_item_Gen H15 i8 o9) fun x16 =>
  bind1 (emit_Code_Here H15 x16.Code_) fun r18 =>
  bnd H15.length fun i21 =>
  bnd (new_frame_Frame H15 (T_frame_Frame.mk 0)) fun H20 =>
  bind1 (item_Gen_Enter H20 (Ptr.at i8 o9) (Ptr.at i21 0)) fun H25 =>
  bind1 (get_item_Gen H25 i8 o9) fun x26 =>
  bind2 (emit_Code_Sign H25 x26.Code_ 18 0 13 16) fun H30 r28 =>
  bind1 (get_item_Gen H30 i8 o9) fun x31 =>
  bind2 (emit_Code_Sign H30 x31.Code_ 18 1 13 12) fun H35 r33 =>
  bind1 (get_item_Gen H35 i8 o9) fun x36 =>
  bind2 (emit_Code_Three H35 x36.Code_ 7 0 0 1) fun H40 r38 =>
  bind1 (item_Gen_Leave H40 (Ptr.at i8 o9) 2) fun H42 =>
  bind1 (item_Gen_Done H42 (Ptr.at i8 o9)) fun H44 =>
  bind1 (get_item_Gen H44 i8 o9) fun x45 =>
  bind1 (emit_Code_Land H44 x45.Code_ r13) fun H48 =>
  bind1 (get_item_Gen H48 i8 o9) fun x49 =>
  bind1 (emit_Code_Number H48 x49.Code_ 0 p0) fun H52 =>
  bind1 (item_Gen_Wait H52 (Ptr.at i8 o9)) fun H54 =>
  bind1 (get_item_Gen H54 i8 o9) fun x55 =>
  bind1 (emit_Code_Number H54 x55.Code_ 0 p1) fun H58 =>
  bind1 (item_Gen_Wait H58 (Ptr.at i8 o9)) fun H60 =>
  bind1 (item_Gen_Link H60 (Ptr.at i8 o9) 0) fun H62 =>
  bind1 (get_item_Gen H62 i8 o9) fun x63 =>
  bind1 (emit_Code_Depth H62 x63.Code_) fun r65 =>
  if (r65 != 3) = true then (some (H62, false))
  else (bind1 (item_Gen_Call H62 (Ptr.at i8 o9) (T_scope_Object.mk ByteArray.empty 6 0 0 (IntKind.wrap .i32 r18) 0 false ([(T_api_Param.mk 1 false), (T_api_Param.mk 1 false)] : List T_api_Param))) fun H69 =>
  bind1 (get_item_Gen H69 i8 o9) fun x70 =>
  bind1 (emit_Code_Depth H69 x70.Code_) fun r72 =>
  if (r72 != 0) = true then (some (H69, false))
  else (bind1 (item_Gen_Exception H69 (Ptr.at i8 o9) (T_scope_Object.mk ByteArray.empty 7 0 0 p2 (-1) false ([] : List T_api_Param)) 3) fun H76 =>
  bind3 (law19_ended H76 (Ptr.at i8 o9) 0) fun H80 r77 r78 =>
  if (!r78) = true then (some (H80, false))
  else (bind1 (law19_run (Ptr.at i8 o9) r77) fun r82 =>
  bind1 (law19_stopped r82 (r77.length : Int) (IntKind.wrap .i32 (p0 - p1)) 0) fun r84 =>
  some (H80, (r84 && ((IntKind.wrap .i32 (r82.R_.g 3)) == p2)))))))
theorem ok_law19_ItemCalls (H : Heap) {p0 : Int} {p1 : Int} {p2 : Int} {ra : Bool} {Hr : Heap} (hF : law19_ItemCalls H p0 p1 p2 = some (Hr, ra)) : evS X 10 [.one .top (.int .i32 p0), .one .top (.int .i32 p1), .one .top (.int .i32 p2)] H = some (.one .top (.bool ra), Hr) := by
 let E1 : EN := (0, .one .top (.int .i32 p0))
 let E2 : EN := (1, .one .top (.int .i32 p1))
 let E3 : EN := (2, .one .top (.int .i32 p2))
 let E33 : EN := (58, .one .top (.int .i32 p0))
 let E38 : EN := (66, .one .top (.int .i32 p1))
 let E44 : EN := (81, .agg [(.top, .int .i64 1), (.top, .bool false)])
 let E45 : EN := (82, .agg [(.top, .int .i64 1), (.top, .bool false)])
 let E46 : EN := (83, .one .top .junk)
 let E52 : EN := (93, .one .top (.int .i32 p2))
 let E53 : EN := (94, .agg [(.top, .str ByteArray.empty), (.top, .int .i64 7), (.top, .int .i64 0), (.top, .int .i64 0), (.top, .int .i32 p2), (.top, .int .i64 (-1)), (.top, .bool false), (.top, .junk)])
 let E57 : EN := (13, vl 13 0)
 let E65 : EN := (109, .one .top (.int .i32 p0))
 let E66 : EN := (110, .one .top (.int .i32 p1))
 let E67 : EN := (111, .one .top (.int .i32 (IntKind.wrap .i32 (p0 - p1))))
 let S68 : St := ⟨[E1, E2, E3], [], H⟩
 refine yf Try.func10 false S68 ?_
 unfold law19_ItemCalls at hF
 refine ysg S68 ?_
 refine w_seq ?_
 refine w_seq ?_
 obtain ⟨H3, r1, c2, hF⟩ := bind2_inv hF
 let S69 : St := ⟨[E1, E2, E3], [], H3⟩
 refine w_regO ⟨[E1, E2, E3, (15, vb (!r1))], [], H3⟩ ?_ ?_
 refine o_one ⟨[E1, E2, E3, (14, vb r1)], [], H3⟩ (yc (some 14) false false S68 (ok_law19_awake H c2)) ?_
 refine yr 1 ⟨[E1, E2, E3, (14, vb r1), (15, vb (!r1))], [], H3⟩ ?_
 exact ye
 rcases if_inv hF with ⟨h4, hF⟩ | ⟨h4, hF⟩
 refine yT h4 ⟨[], [], H3⟩ ?_
 refine ysg ⟨[(6, vF)], [], H3⟩ ?_
 refine w_ret ?_
 obtain ⟨e0, e1⟩ := some2_inv hF
 subst e0
 subst e1
 exact yi (vF)
 refine yF h4 S69 ?_
 refine w_skip ?_
 refine w_seq ?_
 obtain ⟨H7, r5, c6, hF⟩ := bind2_inv hF
 refine w_regO ⟨[E1, E2, E3, (7, vp r5)], [], H7⟩ ?_ ?_
 refine o_one ⟨[E1, E2, E3, (16, vp r5)], [], H7⟩ (yc (some 16) false false S69 (ok_law19_begun H3 c6) (hr := (by generalize r5 = qp0; cases qp0 <;> kernel_rfl)) (hs := (by generalize r5 = qp0; cases qp0 <;> kernel_rfl))) ?_
 refine yr 1 ⟨[E1, E2, E3, (7, vp r5), (16, vp r5)], [], H7⟩ ?_ (h := (by generalize r5 = qp0; cases qp0 <;> kernel_rfl))
 exact ye
 refine w_seq ?_
 obtain ⟨i8, o9, h10, hF⟩ := pbnd_inv hF
 let E4 : EN := (7, vo i8 o9)
 let E6 : EN := (17, vo i8 o9)
 let E7 : EN := (18, vo i8 o9)
 let E8 : EN := (19, vo i8 o9)
 let E11 : EN := (22, vo i8 o9)
 let E12 : EN := (23, vo i8 o9)
 let E13 : EN := (24, vo i8 o9)
 let E16 : EN := (29, vo i8 o9)
 let E17 : EN := (30, vo i8 o9)
 let E18 : EN := (31, vo i8 o9)
 let E19 : EN := (34, vo i8 o9)
 let E20 : EN := (35, vo i8 o9)
 let E21 : EN := (36, vo i8 o9)
 let E22 : EN := (39, vo i8 o9)
 let E23 : EN := (40, vo i8 o9)
 let E24 : EN := (41, vo i8 o9)
 let E25 : EN := (48, vo i8 o9)
 let E26 : EN := (49, vo i8 o9)
 let E27 : EN := (50, vo i8 o9)
 let E29 : EN := (54, vo i8 o9)
 let E30 : EN := (55, vo i8 o9)
 let E31 : EN := (56, vo i8 o9)
 let E34 : EN := (62, vo i8 o9)
 let E35 : EN := (63, vo i8 o9)
 let E36 : EN := (64, vo i8 o9)
 let E39 : EN := (72, vo i8 o9)
 let E40 : EN := (73, vo i8 o9)
 let E41 : EN := (74, vo i8 o9)
 let E48 : EN := (86, vo i8 o9)
 let E49 : EN := (87, vo i8 o9)
 let E50 : EN := (88, vo i8 o9)
 let E55 : EN := (97, vo i8 o9)
 let E59 : EN := (103, vo i8 o9)
 let S70 : St := ⟨[E1, E2, E3, E4, E6, E7, E8], [], H7⟩
 obtain ⟨⟨x11a, x11b, ⟨x11c, x11d, x11e, x11f⟩⟩, V12, hF⟩ := bind1_inv hF
 replace V12 := hgetT_inv V12
 let E9 : Ptr → EN := fun z0 => (20, vp z0)
 let S71 : Ptr → St := fun z0 => ⟨[E1, E2, E3, E4, E6, E7, E8, (E9 z0)], [], H7⟩
 obtain ⟨H15, r13, c14, hF⟩ := bind2_inv hF
 let E5 : EN := (8, vi r13)
 let S72 : St := ⟨[E1, E2, E3, E4, E5, E11, E12, E13], [], H15⟩
 refine w_regO ⟨[E1, E2, E3, E4, E5], [], H15⟩ ?_ ?_
 refine yr 1 ⟨[E1, E2, E3, (7, vp r5), (17, vp r5)], [], H7⟩ ?_ (h := (by generalize r5 = qp0; cases qp0 <;> kernel_rfl))
 refine o_eq (congrArg (fun q => (⟨[E1, E2, E3, (7, vp q), (17, vp q)], [], H7⟩ : St)) h10) ?_
 refine yr 1 ⟨[E1, E2, E3, E4, E6, E7], [], H7⟩ ?_
 refine yr 1 S70 ?_
 refine o_one (S71 x11a) (yd (X := X) S70 26 V12 0 1 false (vp x11a) (some 20) (hs := (by generalize x11a = qp0; cases qp0 <;> kernel_rfl))) ?_
 refine o_one ⟨[E1, E2, E3, E4, E6, E7, E8, (E9 x11a), (21, vi r13)], [], H15⟩ (yc (some 21) false false (S71 x11a) (ok_emit_Code_Jump H7 c14) (hr := (by generalize x11a = qp0; cases qp0 <;> kernel_rfl)) (hs := (by generalize x11a = qp0; cases qp0 <;> kernel_rfl))) ?_
 refine yr 1 ⟨[E1, E2, E3, E4, E5, E6, E7, E8, (E9 x11a), (21, vi r13)], [], H15⟩ ?_ (h := (by generalize x11a = qp0; cases qp0 <;> kernel_rfl))
 exact ye
 refine w_seq ?_
 obtain ⟨⟨x16a, x16b, ⟨x16c, x16d, x16e, x16f⟩⟩, V17, hF⟩ := bind1_inv hF
 replace V17 := hgetT_inv V17
 let E14 : Ptr → EN := fun z0 => (25, vp z0)
 let S73 : Ptr → St := fun z0 => ⟨[E1, E2, E3, E4, E5, E11, E12, E13, (E14 z0)], [], H15⟩
 obtain ⟨r18, c19, hF⟩ := bind1_inv hF
 let E10 : EN := (9, vi r18)
 let E43 : EN := (80, .one .top (.int .i32 (IntKind.wrap .i32 r18)))
 let E47 : EN := (84, .agg [(.top, .str ByteArray.empty), (.top, .int .i64 6), (.top, .int .i64 0), (.top, .int .i64 0), (.top, .int .i32 (IntKind.wrap .i32 r18)), (.top, .int .i64 0), (.top, .bool false), (.top, .junk)])
 refine w_regO ⟨[E1, E2, E3, E4, E5, E10], [], H15⟩ ?_ ?_
 refine yr 2 ⟨[E1, E2, E3, E4, E5, E11, E12], [], H15⟩ ?_
 refine yr 1 S72 ?_
 refine o_one (S73 x16a) (yd (X := X) S72 26 V17 0 1 false (vp x16a) (some 25) (hs := (by generalize x16a = qp0; cases qp0 <;> kernel_rfl))) ?_
 refine o_one ⟨[E1, E2, E3, E4, E5, E11, E12, E13, (E14 x16a), (26, vi r18)], [], H15⟩ (yc (some 26) true false (S73 x16a) (ok_emit_Code_Here H15 c19) (hr := (by generalize x16a = qp0; cases qp0 <;> kernel_rfl)) (hs := (by generalize x16a = qp0; cases qp0 <;> kernel_rfl))) ?_
 refine yr 1 ⟨[E1, E2, E3, E4, E5, E10, E11, E12, E13, (E14 x16a), (26, vi r18)], [], H15⟩ ?_ (h := (by generalize x16a = qp0; cases qp0 <;> kernel_rfl))
 exact ye
 refine w_seq ?_
 obtain ⟨i21, h23, hF⟩ := bnd_inv hF
 let E15 : EN := (10, vo i21 0)
 obtain ⟨H20, h22, hF⟩ := bnd_inv hF
 let S74 : St := ⟨[E1, E2, E3, E4, E5, E10, E15, (27, vo i8 o9)], [], H20⟩
 refine w_regO ⟨[E1, E2, E3, E4, E5, E10, E15], [], H20⟩ ?_ ?_
 refine o_one ⟨[E1, E2, E3, E4, E5, E10, (10, vo H15.length 0)], [], (H15 ++ [[(.top, .int .i64 0)]])⟩ (by kernel_rfl) ?_
 refine o_eq (congr2 (fun q u => (⟨[E1, E2, E3, E4, E5, E10, (10, vo q 0)], [], u⟩ : St)) h23 h22) ?_
 exact ye
 refine w_seq ?_
 obtain ⟨H25, c24, hF⟩ := bind1_inv hF
 let S75 : St := ⟨[E1, E2, E3, E4, E5, E10, E16, E17, E18], [], H25⟩
 refine w_regO ⟨[E1, E2, E3, E4, E5, E10], [], H25⟩ ?_ ?_
 refine yr 1 S74 ?_
 refine o_one ⟨[E1, E2, E3, E4, E5, E10, E15, (27, vo i8 o9), (28, vN)], [], H25⟩ (yc (some 28) false false S74 (ok_item_Gen_Enter H20 c24)) ?_
 exact ye
 refine w_seq ?_
 obtain ⟨⟨x26a, x26b, ⟨x26c, x26d, x26e, x26f⟩⟩, V27, hF⟩ := bind1_inv hF
 replace V27 := hgetT_inv V27
 let S76 : Ptr → St := fun z0 => ⟨[E1, E2, E3, E4, E5, E10, E16, E17, E18, (32, vp z0)], [], H25⟩
 obtain ⟨H30, r28, c29, hF⟩ := bind2_inv hF
 let S77 : St := ⟨[E1, E2, E3, E4, E5, E10, E19, E20, E21], [], H30⟩
 refine w_regO ⟨[E1, E2, E3, E4, E5, E10], [], H30⟩ ?_ ?_
 refine yr 2 ⟨[E1, E2, E3, E4, E5, E10, E16, E17], [], H25⟩ ?_
 refine yr 1 S75 ?_
 refine o_one (S76 x26a) (yd (X := X) S75 26 V27 0 1 false (vp x26a) (some 32) (hs := (by generalize x26a = qp0; cases qp0 <;> kernel_rfl))) ?_
 refine o_one ⟨[E1, E2, E3, E4, E5, E10, E16, E17, E18, (32, vp x26a), (33, vi r28)], [], H30⟩ (yc (some 33) false false (S76 x26a) (ok_emit_Code_Sign H25 c29) (hr := (by generalize x26a = qp0; cases qp0 <;> kernel_rfl)) (hs := (by generalize x26a = qp0; cases qp0 <;> kernel_rfl))) ?_
 exact ye
 refine w_seq ?_
 obtain ⟨⟨x31a, x31b, ⟨x31c, x31d, x31e, x31f⟩⟩, V32, hF⟩ := bind1_inv hF
 replace V32 := hgetT_inv V32
 let S78 : Ptr → St := fun z0 => ⟨[E1, E2, E3, E4, E5, E10, E19, E20, E21, (37, vp z0)], [], H30⟩
 obtain ⟨H35, r33, c34, hF⟩ := bind2_inv hF
 let S79 : St := ⟨[E1, E2, E3, E4, E5, E10, E22, E23, E24], [], H35⟩
 refine w_regO ⟨[E1, E2, E3, E4, E5, E10], [], H35⟩ ?_ ?_
 refine yr 2 ⟨[E1, E2, E3, E4, E5, E10, E19, E20], [], H30⟩ ?_
 refine yr 1 S77 ?_
 refine o_one (S78 x31a) (yd (X := X) S77 26 V32 0 1 false (vp x31a) (some 37) (hs := (by generalize x31a = qp0; cases qp0 <;> kernel_rfl))) ?_
 refine o_one ⟨[E1, E2, E3, E4, E5, E10, E19, E20, E21, (37, vp x31a), (38, vi r33)], [], H35⟩ (yc (some 38) false false (S78 x31a) (ok_emit_Code_Sign H30 c34) (hr := (by generalize x31a = qp0; cases qp0 <;> kernel_rfl)) (hs := (by generalize x31a = qp0; cases qp0 <;> kernel_rfl))) ?_
 exact ye
 refine w_seq ?_
 obtain ⟨⟨x36a, x36b, ⟨x36c, x36d, x36e, x36f⟩⟩, V37, hF⟩ := bind1_inv hF
 replace V37 := hgetT_inv V37
 let S80 : Ptr → St := fun z0 => ⟨[E1, E2, E3, E4, E5, E10, E22, E23, E24, (42, vp z0)], [], H35⟩
 obtain ⟨H40, r38, c39, hF⟩ := bind2_inv hF
 let S81 : St := ⟨[E1, E2, E3, E4, E5, E10, (44, vo i8 o9)], [], H40⟩
 refine w_regO ⟨[E1, E2, E3, E4, E5, E10], [], H40⟩ ?_ ?_
 refine yr 2 ⟨[E1, E2, E3, E4, E5, E10, E22, E23], [], H35⟩ ?_
 refine yr 1 S79 ?_
 refine o_one (S80 x36a) (yd (X := X) S79 26 V37 0 1 false (vp x36a) (some 42) (hs := (by generalize x36a = qp0; cases qp0 <;> kernel_rfl))) ?_
 refine o_one ⟨[E1, E2, E3, E4, E5, E10, E22, E23, E24, (42, vp x36a), (43, vi r38)], [], H40⟩ (yc (some 43) false false (S80 x36a) (ok_emit_Code_Three H35 c39) (hr := (by generalize x36a = qp0; cases qp0 <;> kernel_rfl)) (hs := (by generalize x36a = qp0; cases qp0 <;> kernel_rfl))) ?_
 exact ye
 refine w_seq ?_
 obtain ⟨H42, c41, hF⟩ := bind1_inv hF
 let S82 : St := ⟨[E1, E2, E3, E4, E5, E10, (46, vo i8 o9)], [], H42⟩
 refine w_regO ⟨[E1, E2, E3, E4, E5, E10], [], H42⟩ ?_ ?_
 refine yr 1 S81 ?_
 refine o_one ⟨[E1, E2, E3, E4, E5, E10, (44, vo i8 o9), (45, vN)], [], H42⟩ (yc (some 45) false false S81 (ok_item_Gen_Leave H40 c41)) ?_
 exact ye
 refine w_seq ?_
 obtain ⟨H44, c43, hF⟩ := bind1_inv hF
 let S83 : St := ⟨[E1, E2, E3, E4, E5, E10, E25, E26, E27], [], H44⟩
 refine w_regO ⟨[E1, E2, E3, E4, E5, E10], [], H44⟩ ?_ ?_
 refine yr 1 S82 ?_
 refine o_one ⟨[E1, E2, E3, E4, E5, E10, (46, vo i8 o9), (47, vN)], [], H44⟩ (yc (some 47) false false S82 (ok_item_Gen_Done H42 c43)) ?_
 exact ye
 refine w_seq ?_
 obtain ⟨⟨x45a, x45b, ⟨x45c, x45d, x45e, x45f⟩⟩, V46, hF⟩ := bind1_inv hF
 replace V46 := hgetT_inv V46
 let E28 : Ptr → EN := fun z0 => (51, vp z0)
 let S84 : Ptr → St := fun z0 => ⟨[E1, E2, E3, E4, E5, E10, E25, E26, E27, (E28 z0), (52, vi r13)], [], H44⟩
 obtain ⟨H48, c47, hF⟩ := bind1_inv hF
 let S85 : St := ⟨[E1, E2, E3, E4, E10, E29, E30, E31], [], H48⟩
 refine w_regO ⟨[E1, E2, E3, E4, E10], [], H48⟩ ?_ ?_
 refine yr 2 ⟨[E1, E2, E3, E4, E5, E10, E25, E26], [], H44⟩ ?_
 refine yr 1 S83 ?_
 refine o_one ⟨[E1, E2, E3, E4, E5, E10, E25, E26, E27, (E28 x45a)], [], H44⟩ (yd (X := X) S83 26 V46 0 1 false (vp x45a) (some 51) (hs := (by generalize x45a = qp0; cases qp0 <;> kernel_rfl))) ?_
 refine yr 1 (S84 x45a) ?_ (h := (by generalize x45a = qp0; cases qp0 <;> kernel_rfl))
 refine o_one ⟨[E1, E2, E3, E4, E5, E10, E25, E26, E27, (E28 x45a), (52, vi r13), (53, vN)], [], H48⟩ (yc (some 53) false false (S84 x45a) (ok_emit_Code_Land H44 c47) (hr := (by generalize x45a = qp0; cases qp0 <;> kernel_rfl)) (hs := (by generalize x45a = qp0; cases qp0 <;> kernel_rfl))) ?_
 exact ye
 refine w_seq ?_
 obtain ⟨⟨x49a, x49b, ⟨x49c, x49d, x49e, x49f⟩⟩, V50, hF⟩ := bind1_inv hF
 replace V50 := hgetT_inv V50
 let E32 : Ptr → EN := fun z0 => (57, vp z0)
 let S86 : Ptr → St := fun z0 => ⟨[E1, E2, E3, E4, E10, E29, E30, E31, (E32 z0), E33], [], H48⟩
 obtain ⟨H52, c51, hF⟩ := bind1_inv hF
 let S87 : St := ⟨[E1, E2, E3, E4, E10, (60, vo i8 o9)], [], H52⟩
 refine w_regO ⟨[E1, E2, E3, E4, E10], [], H52⟩ ?_ ?_
 refine yr 2 ⟨[E1, E2, E3, E4, E10, E29, E30], [], H48⟩ ?_
 refine yr 1 S85 ?_
 refine o_one ⟨[E1, E2, E3, E4, E10, E29, E30, E31, (E32 x49a)], [], H48⟩ (yd (X := X) S85 26 V50 0 1 false (vp x49a) (some 57) (hs := (by generalize x49a = qp0; cases qp0 <;> kernel_rfl))) ?_
 refine yr 1 (S86 x49a) ?_ (h := (by generalize x49a = qp0; cases qp0 <;> kernel_rfl))
 refine o_one ⟨[E1, E2, E3, E4, E10, E29, E30, E31, (E32 x49a), E33, (59, vN)], [], H52⟩ (yc (some 59) false false (S86 x49a) (ok_emit_Code_Number H48 c51) (hr := (by generalize x49a = qp0; cases qp0 <;> kernel_rfl)) (hs := (by generalize x49a = qp0; cases qp0 <;> kernel_rfl))) ?_
 exact ye
 refine w_seq ?_
 obtain ⟨H54, c53, hF⟩ := bind1_inv hF
 let S88 : St := ⟨[E1, E2, E3, E4, E10, E34, E35, E36], [], H54⟩
 refine w_regO ⟨[E1, E2, E3, E4, E10], [], H54⟩ ?_ ?_
 refine yr 1 S87 ?_
 refine o_one ⟨[E1, E2, E3, E4, E10, (60, vo i8 o9), (61, vN)], [], H54⟩ (yc (some 61) false false S87 (ok_item_Gen_Wait H52 c53)) ?_
 exact ye
 refine w_seq ?_
 obtain ⟨⟨x55a, x55b, ⟨x55c, x55d, x55e, x55f⟩⟩, V56, hF⟩ := bind1_inv hF
 replace V56 := hgetT_inv V56
 let E37 : Ptr → EN := fun z0 => (65, vp z0)
 let S89 : Ptr → St := fun z0 => ⟨[E1, E2, E3, E4, E10, E34, E35, E36, (E37 z0), E38], [], H54⟩
 obtain ⟨H58, c57, hF⟩ := bind1_inv hF
 let S90 : St := ⟨[E1, E2, E3, E4, E10, (68, vo i8 o9)], [], H58⟩
 refine w_regO ⟨[E1, E2, E3, E4, E10], [], H58⟩ ?_ ?_
 refine yr 2 ⟨[E1, E2, E3, E4, E10, E34, E35], [], H54⟩ ?_
 refine yr 1 S88 ?_
 refine o_one ⟨[E1, E2, E3, E4, E10, E34, E35, E36, (E37 x55a)], [], H54⟩ (yd (X := X) S88 26 V56 0 1 false (vp x55a) (some 65) (hs := (by generalize x55a = qp0; cases qp0 <;> kernel_rfl))) ?_
 refine yr 1 (S89 x55a) ?_ (h := (by generalize x55a = qp0; cases qp0 <;> kernel_rfl))
 refine o_one ⟨[E1, E2, E3, E4, E10, E34, E35, E36, (E37 x55a), E38, (67, vN)], [], H58⟩ (yc (some 67) false false (S89 x55a) (ok_emit_Code_Number H54 c57) (hr := (by generalize x55a = qp0; cases qp0 <;> kernel_rfl)) (hs := (by generalize x55a = qp0; cases qp0 <;> kernel_rfl))) ?_
 exact ye
 refine w_seq ?_
 obtain ⟨H60, c59, hF⟩ := bind1_inv hF
 let S92 : St := ⟨[E1, E2, E3, E4, E10, (70, vo i8 o9)], [], H60⟩
 refine w_regO ⟨[E1, E2, E3, E4, E10], [], H60⟩ ?_ ?_
 refine yr 1 S90 ?_
 refine o_one ⟨[E1, E2, E3, E4, E10, (68, vo i8 o9), (69, vN)], [], H60⟩ (yc (some 69) false false S90 (ok_item_Gen_Wait H58 c59)) ?_
 exact ye
 refine w_seq ?_
 obtain ⟨H62, c61, hF⟩ := bind1_inv hF
 let S91 : St := ⟨[E1, E2, E3, E4, E10], [], H62⟩
 let S93 : St := ⟨[E1, E2, E3, E4, E10, E39, E40, E41], [], H62⟩
 refine w_regO S91 ?_ ?_
 refine yr 1 S92 ?_
 refine o_one ⟨[E1, E2, E3, E4, E10, (70, vo i8 o9), (71, vN)], [], H62⟩ (yc (some 71) false false S92 (ok_item_Gen_Link H60 c61)) ?_
 exact ye
 refine w_seq ?_
 refine w_seq ?_
 obtain ⟨⟨x63a, x63b, ⟨x63c, x63d, x63e, x63f⟩⟩, V64, hF⟩ := bind1_inv hF
 replace V64 := hgetT_inv V64
 let E42 : Ptr → EN := fun z0 => (75, vp z0)
 let S94 : Ptr → St := fun z0 => ⟨[E1, E2, E3, E4, E10, E39, E40, E41, (E42 z0)], [], H62⟩
 obtain ⟨r65, c66, hF⟩ := bind1_inv hF
 refine w_regO ⟨[E1, E2, E3, E4, E10, (77, vb (r65 != 3))], [], H62⟩ ?_ ?_
 refine yr 2 ⟨[E1, E2, E3, E4, E10, E39, E40], [], H62⟩ ?_
 refine yr 1 S93 ?_
 refine o_one (S94 x63a) (yd (X := X) S93 26 V64 0 1 false (vp x63a) (some 75) (hs := (by generalize x63a = qp0; cases qp0 <;> kernel_rfl))) ?_
 refine o_one ⟨[E1, E2, E3, E4, E10, E39, E40, E41, (E42 x63a), (76, vi r65)], [], H62⟩ (yc (some 76) true false (S94 x63a) (ok_emit_Code_Depth H62 c66) (hr := (by generalize x63a = qp0; cases qp0 <;> kernel_rfl)) (hs := (by generalize x63a = qp0; cases qp0 <;> kernel_rfl))) ?_
 refine yr 1 ⟨[E1, E2, E3, E4, E10, E39, E40, E41, (E42 x63a), (76, vi r65), (77, vb (r65 != 3))], [], H62⟩ ?_ (h := (by generalize x63a = qp0; cases qp0 <;> kernel_rfl))
 exact ye
 rcases if_inv hF with ⟨h67, hF⟩ | ⟨h67, hF⟩
 refine yT h67 ⟨[], [], H62⟩ ?_
 refine ysg ⟨[(6, vF)], [], H62⟩ ?_
 refine w_ret ?_
 obtain ⟨e0, e1⟩ := some2_inv hF
 subst e0
 subst e1
 exact yi (vF)
 refine yF h67 S91 ?_
 refine w_skip ?_
 refine w_seq ?_
 obtain ⟨H69, c68, hF⟩ := bind1_inv hF
 let S95 : St := ⟨[E1, E2, E3, E4], [], H69⟩
 let S96 : St := ⟨[E1, E2, E3, E4, E48, E49, E50], [], H69⟩
 refine w_regO S95 ?_ ?_
 refine yr 7 ⟨[E1, E2, E3, E4, E10, (78, vo i8 o9), (79, vi r18), E43, E44, E45, E46, (84, .agg [(.top, .str ByteArray.empty), (.top, .int .i64 6), (.top, .int .i64 0), (.top, .int .i64 0), (.top, .int .i32 (IntKind.wrap .i32 r18)), (.top, .int .i64 0), (.top, .bool false), ((.own 1), .sl 2 (List.map e_api_Param ([(T_api_Param.mk 1 false), (T_api_Param.mk 1 false)] : List T_api_Param)))])], [], H62⟩ ?_
 refine o_one ⟨[E1, E2, E3, E4, E10, (78, vo i8 o9), (79, vi r18), E43, E44, E45, E46, E47, (85, vN)], [], H69⟩ (yc (some 85) false true (⟨[E1, E2, E3, E4, E10, (78, vo i8 o9), (79, vi r18), E43, E44, E45, E46, E47], [], H62⟩ : St) (ok_item_Gen_Call H62 c68)) ?_
 exact ye
 refine w_seq ?_
 refine w_seq ?_
 obtain ⟨⟨x70a, x70b, ⟨x70c, x70d, x70e, x70f⟩⟩, V71, hF⟩ := bind1_inv hF
 replace V71 := hgetT_inv V71
 let E51 : Ptr → EN := fun z0 => (89, vp z0)
 let S97 : Ptr → St := fun z0 => ⟨[E1, E2, E3, E4, E48, E49, E50, (E51 z0)], [], H69⟩
 obtain ⟨r72, c73, hF⟩ := bind1_inv hF
 refine w_regO ⟨[E1, E2, E3, E4, (91, vb (r72 != 0))], [], H69⟩ ?_ ?_
 refine yr 2 ⟨[E1, E2, E3, E4, E48, E49], [], H69⟩ ?_
 refine yr 1 S96 ?_
 refine o_one (S97 x70a) (yd (X := X) S96 26 V71 0 1 false (vp x70a) (some 89) (hs := (by generalize x70a = qp0; cases qp0 <;> kernel_rfl))) ?_
 refine o_one ⟨[E1, E2, E3, E4, E48, E49, E50, (E51 x70a), (90, vi r72)], [], H69⟩ (yc (some 90) true false (S97 x70a) (ok_emit_Code_Depth H69 c73) (hr := (by generalize x70a = qp0; cases qp0 <;> kernel_rfl)) (hs := (by generalize x70a = qp0; cases qp0 <;> kernel_rfl))) ?_
 refine yr 1 ⟨[E1, E2, E3, E4, E48, E49, E50, (E51 x70a), (90, vi r72), (91, vb (r72 != 0))], [], H69⟩ ?_ (h := (by generalize x70a = qp0; cases qp0 <;> kernel_rfl))
 exact ye
 rcases if_inv hF with ⟨h74, hF⟩ | ⟨h74, hF⟩
 refine yT h74 ⟨[], [], H69⟩ ?_
 refine ysg ⟨[(6, vF)], [], H69⟩ ?_
 refine w_ret ?_
 obtain ⟨e0, e1⟩ := some2_inv hF
 subst e0
 subst e1
 exact yi (vF)
 refine yF h74 S95 ?_
 refine w_skip ?_
 refine w_seq ?_
 obtain ⟨H76, c75, hF⟩ := bind1_inv hF
 let S98 : St := ⟨[E1, E2, E3, E4, E55], [], H76⟩
 refine w_regO ⟨[E1, E2, E3, E4], [], H76⟩ ?_ ?_
 refine yr 3 ⟨[E1, E2, E3, E4, (92, vo i8 o9), E52, (94, .agg [(.top, .str ByteArray.empty), (.top, .int .i64 7), (.top, .int .i64 0), (.top, .int .i64 0), (.top, .int .i32 p2), (.top, .int .i64 (-1)), (.top, .bool false), ((.own 1), .sl 2 (List.map e_api_Param ([] : List T_api_Param)))])], [], H69⟩ ?_
 refine o_one ⟨[E1, E2, E3, E4, (92, vo i8 o9), E52, E53, (95, vN)], [], H76⟩ (yc (some 95) false true (⟨[E1, E2, E3, E4, (92, vo i8 o9), E52, E53], [], H69⟩ : St) (ok_item_Gen_Exception H69 c75)) ?_
 exact ye
 refine w_seq ?_
 obtain ⟨H80, r77, r78, c79, hF⟩ := bind3_inv hF
 let E54 : EN := (11, .one .bl (.sl 1 (List.map (eI .u32) r77)))
 let E56 : EN := (98, .tup [.one (.own 1) (.sl 1 (List.map (eI .u32) r77)), vb r78])
 let E60 : EN := (104, .one .bl (.sl 1 (List.map (eI .u32) r77)))
 let E63 : EN := (107, .one .bl (.sl 1 (List.map (eI .u32) r77)))
 let E64 : EN := (108, vi (r77.length : Int))
 let S99 : St := ⟨[E1, E2, E3, E4, E54, E59, E60], [], H80⟩
 refine w_regO ⟨[E1, E2, E3, E4, E54, (12, vb r78)], [], H80⟩ ?_ ?_
 refine yr 1 S98 ?_
 refine o_one ⟨[E1, E2, E3, E4, E55, E56], [], H80⟩ (yc (some 98) false false S98 (ok_law19_ended H76 c79)) ?_
 refine yr 5 ⟨[E1, E2, E3, E4, E54, (12, vb r78), (96, .tup [.one .bl (.sl 1 (List.map (eI .u32) r77)), vb r78]), E55, E56, (99, .one .bl (.sl 1 (List.map (eI .u32) r77))), (100, vb r78)], [], H80⟩ ?_
 exact ye
 refine w_seq ?_
 refine ysg ⟨[E1, E2, E3, E4, E54, (102, vb (!r78))], [], H80⟩ ?_
 rcases if_inv hF with ⟨h81, hF⟩ | ⟨h81, hF⟩
 refine yT h81 ⟨[], [], H80⟩ ?_
 refine ysg ⟨[(6, vF)], [], H80⟩ ?_
 refine w_ret ?_
 obtain ⟨e0, e1⟩ := some2_inv hF
 subst e0
 subst e1
 exact yi (vF)
 refine yF h81 ⟨[E1, E2, E3, E4, E54], [], H80⟩ ?_
 refine w_skip ?_
 refine w_seq ?_
 obtain ⟨r82, c83, hF⟩ := bind1_inv hF
 let B58 : EB := (13, (m1_ref04_Cpu r82))
 let E61 : EN := (105, .agg (m1_ref04_Cpu r82))
 let E62 : EN := (106, .agg (m1_ref04_Cpu r82))
 let S100 : St := ⟨[E1, E2, E3, E54, E57, E62, E63], [B58], H80⟩
 let S101 : St := ⟨[E1, E2, E3, E54, E57, E62, E63, E64, E65, E66, E67], [B58], H80⟩
 refine w_regO ⟨[E1, E2, E3, E54, E57], [B58], H80⟩ ?_ ?_
 refine yr 2 S99 ?_
 refine o_one ⟨[E1, E2, E3, E4, E54, E59, E60, E61], [], H80⟩ (yc (some 105) true false S99 (ok_law19_run H80 c83)) ?_
 refine yr 2 ⟨[E1, E2, E3, E4, E54, E57, E59, E60, E61], [B58], H80⟩ ?_
 exact ye
 refine w_seq ?_
 obtain ⟨r84, c85, hF⟩ := bind1_inv hF
 refine w_regO ⟨[(6, vb (r84 && ((IntKind.wrap .i32 (r82.R_.g 3)) == p2)))], [], H80⟩ ?_ ?_
 refine yr 2 S100 ?_
 refine o_one ⟨[E1, E2, E3, E54, E57, E62, E63, E64], [B58], H80⟩ (yl S100 r77 (eI .u32) (some 108)) ?_
 refine yr 3 S101 ?_
 refine o_one ⟨[E1, E2, E3, E54, E57, E62, E63, E64, E65, E66, E67, (112, vb r84)], [B58], H80⟩ (yc (some 112) true false S101 (ok_law19_stopped H80 c85)) ?_
 refine yr 1 ⟨[E1, E2, E3, E54, E57, E62, E63, E64, E65, E66, E67, (112, vb r84), (113, vb r84)], [B58], H80⟩ ?_
 rcases bool_cases r84 with h86 | h86
 refine o_eq (congrArg (fun q => (⟨[E1, E2, E3, E54, E57, E62, E63, E64, E65, E66, E67, (112, vb q), (113, vb q)], [B58], H80⟩ : St)) h86) ?_
 refine yr 8 ⟨[E1, E2, E3, (6, vb ((IntKind.wrap .i32 (r82.R_.g 3)) == p2)), E54, E57, E62, E63, E64, E65, E66, E67, (112, vT), (113, vT), (114, vl 13 0), (115, vl 13 3), (116, vu (r82.R_.g 3)), (117, .one .top (.int .i32 (IntKind.wrap .i32 (r82.R_.g 3)))), (118, .one .top (.int .i32 p2)), (119, vb ((IntKind.wrap .i32 (r82.R_.g 3)) == p2)), (120, vb ((IntKind.wrap .i32 (r82.R_.g 3)) == p2))], [B58], H80⟩ ?_
 refine o_eq2 (congrArg (fun q0 => (⟨[(6, vb q0)], [], H80⟩ : St)) (show ((IntKind.wrap .i32 (r82.R_.g 3)) == p2) = (r84 && ((IntKind.wrap .i32 (r82.R_.g 3)) == p2)) by simp [h86])) ?_
 exact ye
 refine o_eq (congrArg (fun q => (⟨[E1, E2, E3, E54, E57, E62, E63, E64, E65, E66, E67, (112, vb q), (113, vb q)], [B58], H80⟩ : St)) h86) ?_
 refine yr 8 ⟨[E1, E2, E3, (6, vF), E54, E57, E62, E63, E64, E65, E66, E67, (112, vF), (113, vF), (114, vN), (115, vN), (116, vN), (117, vN), (118, vN), (119, vN), (120, vF)], [B58], H80⟩ ?_
 refine o_eq2 (congrArg (fun q0 => (⟨[(6, vb q0)], [], H80⟩ : St)) (show false = (r84 && ((IntKind.wrap .i32 (r82.R_.g 3)) == p2)) by simp [h86])) ?_
 exact ye
 refine w_ret ?_
 obtain ⟨e0, e1⟩ := some2_inv hF
 subst e0
 subst e1
 exact yi (vb (r84 && ((IntKind.wrap .i32 (r82.R_.g 3)) == p2)))
end Go.Proofs.Abs
