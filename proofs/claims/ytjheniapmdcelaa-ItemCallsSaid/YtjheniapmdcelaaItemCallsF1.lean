/- The law ItemCalls: whatever the input, it answers true. No conditions. (Part ItemCallsF1 of its proof.) -/
import Derived.Test.YtjheniapmdcelaaItemCallsF0
set_option linter.unusedVariables false
set_option linter.unusedSimpArgs false
set_option linter.unusedSectionVars false
/- Printed by gen (walk.py). -/
namespace Go.Proofs.Abs
open Go Go.Proofs
set_option linter.unusedVariables false
set_option maxRecDepth 100000
set_option maxHeartbeats 0
noncomputable def law19_ended_j2 (a18 : (List Int)) (x21 : T_api_Fixup) (a19 : Int) (j25 : Int) : Option (((List Int) × Int) ⊕ (((List Int)) ⊕ Unit)) :=
  bind1 (gi a18 x21.At_) fun x26 =>
  bind1 (gi a18 x21.At_) fun x28 =>
  bind1 (si a18 x21.At_ (bitsOf .or .u32 x26 (IntKind.wrap .u32 (Int.fdiv j25 (2 ^ 16))))) fun v30 =>
  bind1 (gi v30 (IntKind.wrap .i64 (x21.At_ + 1))) fun x32 =>
  bind1 (gi v30 (IntKind.wrap .i64 (x21.At_ + 1))) fun x34 =>
  bind1 (si v30 (IntKind.wrap .i64 (x21.At_ + 1)) (bitsOf .or .u32 x32 (IntKind.wrap .u32 (bitsOf .and .i64 j25 65535)))) fun v36 =>
  some (Sum.inl (v36, (IntKind.wrap .i64 (a19 + 1))))
noncomputable def law19_ended_L1 (r11 : T_emit_Result) (p1 : Int) (a18 : (List Int)) (a19 : Int) : Option (((List Int) × Int) ⊕ (((List Int)) ⊕ Unit)) :=
  if (decide (a19 < (r11.Fixups_.length : Int))) = true then (bind1 (gi r11.Fixups_ a19) fun x21 =>
  if ((decide (x21.At_ < 0)) || (decide ((IntKind.wrap .i64 (x21.At_ + 1)) ≥ (a18.length : Int)))) = true then (some (Sum.inr (Sum.inr ())))
  else (if (x21.Kind_ == 4) = true then (law19_ended_j2 a18 x21 a19 (IntKind.wrap .i64 ((IntKind.wrap .i64 (4 * (a18.length : Int))) + p1)))
  else (law19_ended_j2 a18 x21 a19 (IntKind.wrap .i64 ((IntKind.wrap .i64 (4 * (a18.length : Int))) + x21.Value_)))))
  else (some (Sum.inr (Sum.inl a18)))
noncomputable def law19_ended (H : Heap) (p0 : Ptr) (p1 : Int) : Option (Heap × (List Int) × Bool) :=
  (p0).bnd fun i1 o2 =>
  bind1 (get_item_Gen H i1 o2) fun x4 =>
  bind2 (emit_Code_Reg H x4.Code_ 1 0) fun H8 r6 =>
  bind1 (get_item_Gen H8 i1 o2) fun x9 =>
  bind3 (emit_Code_Finish H8 x9.Code_) fun H14 r11 r12 =>
  if (r12 != 0) = true then (some (H14, ([] : List Int), false))
  else (bind1 (app 4 ([] : List Int) r11.Words_) fun v16 =>
  bind1 (loopO (fun (x : ((List Int) × Int)) => law19_ended_L1 r11 p1 x.1 x.2) (v16, 0)) (sum2 (fun b41 =>
  some (H14, b41, true)) (fun (_ : Unit) =>
  some (H14, ([] : List Int), false))))
theorem ok_law19_ended (H : Heap) {p0 : Ptr} {p1 : Int} {ra : (List Int)} {rb : Bool} {Hr : Heap} (hF : law19_ended H p0 p1 = some (Hr, ra, rb)) : evS X 22 [.one .top (Ptr.av p0), .one .top (.int .i64 p1)] H = some (.tup [.one (.own 1) (.sl 1 (List.map (eI .u32) ra)), .one .top (.bool rb)], Hr) := by
 let E1 : EN := (1, vi p1)
 let E6 : EN := (6, vl 6 0)
 let E12 : EN := (4, .one (.own 1) (.sl 1 (List.map (eI .u32) ([] : List Int))))
 let E14 : EN := (28, vl 6 0)
 let E16 : EN := (27, .one .top .junk)
 let E21 : EN := (32, vl 6 1)
 let E24 : EN := (10, vl 10 0)
 let E26 : EN := (38, vl 6 1)
 let E30 : EN := (43, vl 10 0)
 let E32 : EN := (47, vl 10 0)
 let E43 : EN := (69, vl 10 0)
 let E46 : EN := (72, vl 10 0)
 let E57 : EN := (82, vl 10 0)
 let E61 : EN := (86, vl 10 0)
 let S74 : Ptr → St := fun z0 => ⟨[(0, vp z0), E1], [], H⟩
 refine yf Try.func22 false (S74 p0) ?_
 unfold law19_ended at hF
 refine ysg (S74 p0) ?_ (h := (by generalize p0 = qp0; cases qp0 <;> kernel_rfl))
 refine w_seq ?_
 obtain ⟨i1, o2, h3, hF⟩ := pbnd_inv hF
 let E2 : EN := (0, vo i1 o2)
 let E3 : EN := (12, vo i1 o2)
 let E4 : EN := (13, vo i1 o2)
 let E5 : EN := (14, vo i1 o2)
 let E8 : EN := (18, vo i1 o2)
 let E9 : EN := (19, vo i1 o2)
 let E10 : EN := (20, vo i1 o2)
 let S75 : St := ⟨[E2, E1, E3, E4, E5], [], H⟩
 obtain ⟨⟨x4a, x4b, ⟨x4c, x4d, x4e, x4f⟩⟩, V5, hF⟩ := bind1_inv hF
 replace V5 := hgetT_inv V5
 let S76 : Ptr → St := fun z0 => ⟨[E2, E1, E3, E4, E5, (15, vp z0)], [], H⟩
 obtain ⟨H8, r6, c7, hF⟩ := bind2_inv hF
 let S77 : St := ⟨[E2, E1, E8, E9, E10], [], H8⟩
 refine w_regO ⟨[E2, E1], [], H8⟩ ?_ ?_
 refine yr 1 ⟨[(0, vp p0), E1, (12, vp p0)], [], H⟩ ?_ (h := (by generalize p0 = qp0; cases qp0 <;> kernel_rfl))
 refine o_eq (congrArg (fun q => (⟨[(0, vp q), E1, (12, vp q)], [], H⟩ : St)) h3) ?_
 refine yr 1 ⟨[E2, E1, E3, E4], [], H⟩ ?_
 refine yr 1 S75 ?_
 refine o_one (S76 x4a) (yd (X := X) S75 26 V5 0 1 false (vp x4a) (some 15) (hs := (by generalize x4a = qp0; cases qp0 <;> kernel_rfl))) ?_
 refine o_one ⟨[E2, E1, E3, E4, E5, (15, vp x4a), (16, vi r6)], [], H8⟩ (yc (some 16) false false (S76 x4a) (ok_emit_Code_Reg H c7) (hr := (by generalize x4a = qp0; cases qp0 <;> kernel_rfl)) (hs := (by generalize x4a = qp0; cases qp0 <;> kernel_rfl))) ?_
 exact ye
 refine w_seq ?_
 obtain ⟨⟨x9a, x9b, ⟨x9c, x9d, x9e, x9f⟩⟩, V10, hF⟩ := bind1_inv hF
 replace V10 := hgetT_inv V10
 let E11 : Ptr → EN := fun z0 => (21, vp z0)
 let S78 : Ptr → St := fun z0 => ⟨[E2, E1, E8, E9, E10, (E11 z0)], [], H8⟩
 obtain ⟨H14, r11, r12, c13, hF⟩ := bind3_inv hF
 let B7 : EB := (6, (m0_emit_Result r11))
 let E15 : EN := (29, .one .bl (.sl 1 (List.map (eI .u32) r11.Words_)))
 let E22 : EN := (33, .one .bl (.sl 4 (List.map e_api_Fixup r11.Fixups_)))
 let E23 : EN := (34, vi (r11.Fixups_.length : Int))
 let E27 : EN := (39, .one .bl (.sl 4 (List.map e_api_Fixup r11.Fixups_)))
 let S79 : St := ⟨[E12, (5, vF)], [], H14⟩
 refine w_regO ⟨[E1, E6, (7, vi r12)], [B7], H14⟩ ?_ ?_
 refine yr 2 ⟨[E2, E1, E8, E9], [], H8⟩ ?_
 refine yr 1 S77 ?_
 refine o_one (S78 x9a) (yd (X := X) S77 26 V10 0 1 false (vp x9a) (some 21) (hs := (by generalize x9a = qp0; cases qp0 <;> kernel_rfl))) ?_
 refine o_one ⟨[E2, E1, E8, E9, E10, (E11 x9a), (22, .tup [.agg (m0_emit_Result r11), vi r12])], [], H14⟩ (yc (some 22) false false (S78 x9a) (ok_emit_Code_Finish H8 c13) (hr := (by generalize x9a = qp0; cases qp0 <;> kernel_rfl)) (hs := (by generalize x9a = qp0; cases qp0 <;> kernel_rfl))) ?_
 refine yr 6 ⟨[E2, E1, E6, (7, vi r12), (17, .tup [.agg [(.top, .junk), (.top, .junk), (.top, .junk)], vi r12]), E8, E9, E10, (E11 x9a), (22, .tup [.agg [(.top, .junk), (.top, .junk), (.top, .junk)], vi r12]), (23, .agg [(.top, .junk), (.top, .junk), (.top, .junk)]), (24, vi r12)], [B7], H14⟩ ?_ (h := (by generalize x9a = qp0; cases qp0 <;> kernel_rfl))
 exact ye
 refine w_seq ?_
 refine ysg ⟨[E1, E6, (26, vb (r12 != 0))], [B7], H14⟩ ?_
 rcases if_inv hF with ⟨h15, hF⟩ | ⟨h15, hF⟩
 refine yT h15 ⟨[], [], H14⟩ ?_
 refine ysg S79 ?_
 refine w_ret ?_
 obtain ⟨e0, e1, e2⟩ := some3_inv hF
 subst e0
 subst e1
 subst e2
 exact yi (.tup [.one (.own 1) (.sl 1 (List.map (eI .u32) ([] : List Int))), vF])
 refine yF h15 ⟨[E1, E6], [B7], H14⟩ ?_
 refine w_skip ?_
 refine w_seq ?_
 obtain ⟨v16, h17, hF⟩ := bind1_inv hF
 let E13 : EN := (8, .one (.own 1) (.sl 1 (List.map (eI .u32) v16)))
 refine w_regO ⟨[E1, E6, E13], [B7], H14⟩ ?_ ?_
 refine yr 3 ⟨[E1, E6, (27, .one (.own 1) (.sl 1 (List.map (eI .u32) ([] : List Int)))), E14, E15], [B7], H14⟩ ?_
 refine o_one ⟨[E1, E6, E16, E14, E15, (30, .one (.own 1) (.sl 1 (List.map (eI .u32) v16)))], [B7], H14⟩ (st_app (X := X) (⟨[E1, E6, E16, E14, E15], [B7], H14⟩ : St) 4 h17 42 42 35 1 0 [(.top, .int .u32 0)] .bl (eI .u32) 9 (some 30) (by kernel_rfl) (by kernel_rfl) (by kernel_rfl) (by kernel_rfl) (by kernel_rfl) (by kernel_rfl) (by kernel_rfl) (by kernel_rfl) (depth_flat rfl fun _ => rfl) (fun _ => rfl) (by kernel_rfl)) ?_
 refine yr 1 ⟨[E1, E6, E13, E16, E14, E15, (30, .one .top .junk)], [B7], H14⟩ ?_
 exact ye
 refine w_seq ?_
 refine ysg ⟨[E1, E6, E13, (9, vi 0)], [B7], H14⟩ ?_
 refine w_block ?_
 obtain ⟨r39, hL40, hF⟩ := bind1_inv hF
 refine w_loop (fun (x : ((List Int) × Int)) => (⟨[E1, E6, (8, .one (.own 1) (.sl 1 (List.map (eI .u32) x.1))), (9, vi x.2)], [B7], H14⟩ : St)) (Sum.elim (fun (y : ((List Int))) => ((.exit 0, (⟨[(8, .one (.own 1) (.sl 1 (List.map (eI .u32) y)))], [], H14⟩ : St)) : Ex × St)) (fun (y : Unit) => ((.ret, S79) : Ex × St))) hL40 (by kernel_rfl) ?_ ?_
 rintro ⟨a18, a19⟩ o hF
 replace hF : law19_ended_L1 r11 p1 a18 a19 = some o := hF
 let E17 : EN := (8, .one (.own 1) (.sl 1 (List.map (eI .u32) a18)))
 let E18 : EN := (9, vi a19)
 let E19 : EN := (35, vb (decide (a19 < (r11.Fixups_.length : Int))))
 let E20 : EN := (31, vi a19)
 let E28 : EN := (40, vi a19)
 let E35 : EN := (50, .one .bl (.sl 1 (List.map (eI .u32) a18)))
 let E36 : EN := (51, vi (a18.length : Int))
 let E38 : EN := (54, .one .bl (.sl 1 (List.map (eI .u32) a18)))
 let E39 : EN := (55, vi (a18.length : Int))
 let E42 : EN := (68, .one .top (.at_ (.tmp 8) 0 ((List.map (eI .u32) a18).length)))
 let E45 : EN := (71, .one .bl (.sl 1 (List.map (eI .u32) a18)))
 let E71 : EN := (11, vi (IntKind.wrap .i64 ((IntKind.wrap .i64 (4 * (a18.length : Int))) + p1)))
 let E72 : EN := (63, .one .bl (.sl 1 (List.map (eI .u32) a18)))
 let E73 : EN := (64, vi (a18.length : Int))
 let S80 : St := ⟨[E1, E6, E17, E18, E20, E21, E22], [B7], H14⟩
 let S82 : St := ⟨[E1, E6, E17, E18, E26, E27, E28], [B7], H14⟩
 unfold law19_ended_L1 at hF
 refine w_seq ?_
 refine yso ⟨[E1, E6, E17, E18, E19], [B7], H14⟩ ?_ ?_
 refine yr 3 S80 ?_
 refine o_one ⟨[E1, E6, E17, E18, E20, E21, E22, E23], [B7], H14⟩ (yl S80 r11.Fixups_ e_api_Fixup (some 34)) ?_
 refine yr 1 ⟨[E1, E6, E17, E18, E20, E21, E22, E23, E19], [B7], H14⟩ ?_
 exact ye
 rcases if_inv hF with ⟨h20, hF⟩ | ⟨h20, hF⟩
 refine yT h20 ⟨[E1, E6, E17, E18], [B7], H14⟩ ?_
 refine w_skip ?_
 refine w_seq ?_
 refine w_block ?_
 refine w_seq ?_
 obtain ⟨x21, h22, hF⟩ := bind1_inv hF
 let B25 : EB := (10, (m0_api_Fixup x21))
 let E29 : EN := (41, .one .top (.rd .bl .bl [.int .i64 x21.At_, .int .i64 x21.Kind_, .int .i64 x21.Module_, .int .i64 x21.Value_] 0))
 let E31 : EN := (44, vi x21.At_)
 let E33 : EN := (48, vi x21.At_)
 let E34 : EN := (49, vi (IntKind.wrap .i64 (x21.At_ + 1)))
 let E37 : EN := (11, vi (IntKind.wrap .i64 ((IntKind.wrap .i64 (4 * (a18.length : Int))) + x21.Value_)))
 let E44 : EN := (70, vi x21.At_)
 let E47 : EN := (73, vi x21.At_)
 let E54 : EN := (80, .one .top (.el (.tmp 8) (Int.toNat x21.At_) 0))
 let E58 : EN := (83, vi x21.At_)
 let E59 : EN := (84, vi (IntKind.wrap .i64 (x21.At_ + 1)))
 let E62 : EN := (87, vi x21.At_)
 let E63 : EN := (88, vi (IntKind.wrap .i64 (x21.At_ + 1)))
 let E70 : EN := (95, .one .top (.el (.tmp 8) (Int.toNat (IntKind.wrap .i64 (x21.At_ + 1))) 0))
 let S81 : St := ⟨[E1, E6, E17, E18, E24], [B7, B25], H14⟩
 let S83 : St := ⟨[E1, E6, E17, E18, E24, E30, E31, (45, vF), (46, vF), E32, E33, E34, E35], [B7, B25], H14⟩
 let S84 : St := ⟨[E1, E6, E17, E18, E24, E37], [B7, B25], H14⟩
 let S85 : St := ⟨[E1, E6, E17, E18, E24, E38], [B7, B25], H14⟩
 let S92 : St := ⟨[E1, E6, E17, E18, E24, E72], [B7, B25], H14⟩
 refine w_regO S81 ?_ ?_
 refine yr 3 S82 ?_
 refine o_one ⟨[E1, E6, E17, E18, E26, E27, E28, E29], [B7], H14⟩ (st_ix (X := X) S82 128 135 4 h22 e_api_Fixup .bl (some 41) (by kernel_rfl) (by kernel_rfl) (by kernel_rfl) (by kernel_rfl)) ?_
 refine yr 3 ⟨[E1, E6, E17, E18, E24, E26, E27, E28, E29, (42, .agg (m0_api_Fixup x21))], [B7, B25], H14⟩ ?_
 exact ye
 refine w_seq ?_
 refine yso ⟨[E1, E6, E17, E18, E24, (53, vb ((decide (x21.At_ < 0)) || (decide ((IntKind.wrap .i64 (x21.At_ + 1)) ≥ (a18.length : Int)))))], [B7, B25], H14⟩ ?_ ?_
 refine yr 4 ⟨[E1, E6, E17, E18, E24, E30, E31, (45, vb (decide (x21.At_ < 0))), (46, vb (decide (x21.At_ < 0)))], [B7, B25], H14⟩ ?_
 rcases bool_cases (decide (x21.At_ < 0)) with h23 | h23
 refine o_eq (congrArg (fun q => (⟨[E1, E6, E17, E18, E24, E30, E31, (45, vb q), (46, vb q)], [B7, B25], H14⟩ : St)) h23) ?_
 refine yr 7 ⟨[E1, E6, E17, E18, E24, E30, E31, (45, vT), (46, vT), (47, vN), (48, vN), (49, vN), (50, vN), (51, vN), (52, vN), (53, vT)], [B7, B25], H14⟩ ?_
 refine o_eq2 (congrArg (fun q0 => (⟨[E1, E6, E17, E18, E24, (53, vb q0)], [B7, B25], H14⟩ : St)) (show true = ((decide (x21.At_ < 0)) || (decide ((IntKind.wrap .i64 (x21.At_ + 1)) ≥ (a18.length : Int)))) by simp [h23])) ?_
 exact ye
 refine o_eq (congrArg (fun q => (⟨[E1, E6, E17, E18, E24, E30, E31, (45, vb q), (46, vb q)], [B7, B25], H14⟩ : St)) h23) ?_
 refine yr 4 S83 ?_
 refine o_one ⟨[E1, E6, E17, E18, E24, E30, E31, (45, vF), (46, vF), E32, E33, E34, E35, E36], [B7, B25], H14⟩ (yl S83 a18 (eI .u32) (some 51)) ?_
 refine yr 2 ⟨[E1, E6, E17, E18, E24, E30, E31, (45, vF), (46, vF), E32, E33, E34, E35, E36, (52, vb (decide ((IntKind.wrap .i64 (x21.At_ + 1)) ≥ (a18.length : Int)))), (53, vb (decide ((IntKind.wrap .i64 (x21.At_ + 1)) ≥ (a18.length : Int))))], [B7, B25], H14⟩ ?_
 refine o_eq2 (congrArg (fun q0 => (⟨[E1, E6, E17, E18, E24, (53, vb q0)], [B7, B25], H14⟩ : St)) (show (decide ((IntKind.wrap .i64 (x21.At_ + 1)) ≥ (a18.length : Int))) = ((decide (x21.At_ < 0)) || (decide ((IntKind.wrap .i64 (x21.At_ + 1)) ≥ (a18.length : Int)))) by simp [h23])) ?_
 exact ye
 rcases if_inv hF with ⟨h24, hF⟩ | ⟨h24, hF⟩
 refine yT h24 ⟨[], [], H14⟩ ?_
 refine ysg S79 ?_
 refine w_ret ?_
 cases hF
 exact ⟨_, rfl, (by kernel_rfl)⟩
 refine yF h24 S81 ?_
 refine w_skip ?_
 refine yso S84 ?_ ?_
 refine yr 1 S85 ?_
 refine o_one ⟨[E1, E6, E17, E18, E24, E38, E39], [B7, B25], H14⟩ (yl S85 a18 (eI .u32) (some 55)) ?_
 refine yr 5 ⟨[E1, E6, E17, E18, E24, E37, E38, E39, (56, vi (IntKind.wrap .i64 (4 * (a18.length : Int)))), (57, vl 10 3), (58, vi x21.Value_), (59, vi (IntKind.wrap .i64 ((IntKind.wrap .i64 (4 * (a18.length : Int))) + x21.Value_)))], [B7, B25], H14⟩ ?_
 exact ye
 refine w_seq ?_
 refine ysg ⟨[E1, E6, E17, E18, E24, E37, (62, vb (x21.Kind_ == 4))], [B7, B25], H14⟩ ?_
 refine w_join (α := (Int)) (fun x => (⟨[E1, E6, E17, E18, E24, (11, vi x)], [B7, B25], H14⟩ : St)) (fun x => law19_ended_j2 a18 x21 a19 x = some o) ?_ ?_
 rintro j25 hF
 replace hF : law19_ended_j2 a18 x21 a19 j25 = some o := hF
 let E41 : EN := (11, vi j25)
 let E49 : EN := (76, vi j25)
 let E50 : EN := (77, vi (Int.fdiv j25 (2 ^ 16)))
 let E51 : EN := (78, vu (IntKind.wrap .u32 (Int.fdiv j25 (2 ^ 16))))
 let E65 : EN := (91, vi j25)
 let E66 : EN := (92, vi (bitsOf .and .i64 j25 65535))
 let E67 : EN := (93, vu (IntKind.wrap .u32 (bitsOf .and .i64 j25 65535)))
 let S86 : St := ⟨[E1, E6, E17, E18, E24, E41, E42, E43, E44, E45, E46, E47], [B7, B25], H14⟩
 unfold law19_ended_j2 at hF
 refine w_seq ?_
 obtain ⟨x26, h27, hF⟩ := bind1_inv hF
 let E48 : EN := (74, .one .top (.rd .bl .bl [.int .u32 x26] 0))
 let E52 : EN := (75, vu x26)
 let E53 : EN := (79, vu (bitsOf .or .u32 x26 (IntKind.wrap .u32 (Int.fdiv j25 (2 ^ 16)))))
 let S87 : St := ⟨[E1, E6, E17, E18, E24, E41, E42, E43, E44, E45, E46, E47, E48, E52, E49, E50, E51, E53], [B7, B25], H14⟩
 let S88 : St := ⟨[E1, E6, E17, E18, E24, E41, E42, E43, E44, E45, E46, E47, E48, E52, E49, E50, E51, E53, E54], [B7, B25], H14⟩
 obtain ⟨x28, h29, hF⟩ := bind1_inv hF
 obtain ⟨v30, h31, hF⟩ := bind1_inv hF
 let E40 : EN := (8, .one (.own 1) (.sl 1 (List.map (eI .u32) v30)))
 let E56 : EN := (81, .one .top (.at_ (.tmp 8) 0 ((List.map (eI .u32) v30).length)))
 let E60 : EN := (85, .one .bl (.sl 1 (List.map (eI .u32) v30)))
 let S89 : St := ⟨[E1, E6, E40, E18, E24, E41, E56, E57, E58, E59, E60, E61, E62, E63], [B7, B25], H14⟩
 refine w_regD (.take 0 (.take 1 (.take 2 (.take 3 (.take 4 (.take 5 (.take 6 (.take 8 (.take 9 (.take 10 (.last 7 (.take 11 (.take 12 (.last 13 .done)))))))))))))) (by kernel_rfl) (⟨[E1, E6, E40, E18, E24, E41], [B7, B25], H14⟩ : St) ?_ ?_
 refine ydk 6 S86 ?_
 refine d_take ⟨[E1, E6, E17, E18, E24, E41, E42, E43, E44, E45, E46, E47, E48], [B7, B25], H14⟩ (st_ix (X := X) S86 42 35 1 h27 (eI .u32) .bl (some 74) (by kernel_rfl) (by kernel_rfl) (by kernel_rfl) (by kernel_rfl)) ?_
 refine ydk 3 ⟨[E1, E6, E17, E18, E24, E41, E42, E43, E44, E45, E46, E47, E48, E49, E50, E51], [B7, B25], H14⟩ ?_
 refine ydl ⟨[E1, E6, E17, E18, E24, E41, E42, E43, E44, E45, E46, E47, E48, E52, E49, E50, E51], [B7, B25], H14⟩ ?_
 refine ydt S87 ?_
 refine d_take S88 (st_ixA (X := X) S87 42 35 1 h29 (eI .u32) (.tmp 8) 0 (List.map (eI .u32) a18).length 0 (some 80) (by kernel_rfl) (by kernel_rfl) (by kernel_rfl) (by kernel_rfl) rfl (List.length_map _) (by kernel_rfl)) ?_
 refine d_last ⟨[E1, E6, E40, E18, E24, E41, E42, E43, E44, (71, .one .top .junk), E46, E47, (74, .one .top .junk), E52, E49, E50, E51, E53, E54], [B7, B25], H14⟩ (st_stE (X := X) S88 (⟨[E1, E6, E40, E18, E24, E41, E42, E43, E44, E45, E46, E47, E48, E52, E49, E50, E51, E53, E54], [B7, B25], H14⟩ : St) ⟨true, [6, 10]⟩ 35 (.tmp 8) (Int.toNat x21.At_) 0 1 0 (List.map (eI .u32) a18) [.int .u32 x28] ((eI .u32) (bitsOf .or .u32 x26 (IntKind.wrap .u32 (Int.fdiv j25 (2 ^ 16))))) (List.map (eI .u32) v30) 1 (vu (bitsOf .or .u32 x26 (IntKind.wrap .u32 (Int.fdiv j25 (2 ^ 16))))) (by kernel_rfl) (by kernel_rfl) (by kernel_rfl) (by kernel_rfl) (by kernel_rfl) (by kernel_rfl) (el_at h29) (by kernel_rfl) (by kernel_rfl) (el_put h31) (by kernel_rfl) (by kernel_rfl)) ?_
 exact yde
 obtain ⟨x32, h33, hF⟩ := bind1_inv hF
 let E64 : EN := (89, .one .top (.rd .bl .bl [.int .u32 x32] 0))
 let E68 : EN := (90, vu x32)
 let E69 : EN := (94, vu (bitsOf .or .u32 x32 (IntKind.wrap .u32 (bitsOf .and .i64 j25 65535))))
 let S90 : St := ⟨[E1, E6, E40, E18, E24, E41, E56, E57, E58, E59, E60, E61, E62, E63, E64, E68, E65, E66, E67, E69], [B7, B25], H14⟩
 let S91 : St := ⟨[E1, E6, E40, E18, E24, E41, E56, E57, E58, E59, E60, E61, E62, E63, E64, E68, E65, E66, E67, E69, E70], [B7, B25], H14⟩
 obtain ⟨x34, h35, hF⟩ := bind1_inv hF
 obtain ⟨v36, h37, hF⟩ := bind1_inv hF
 let E55 : EN := (8, .one (.own 1) (.sl 1 (List.map (eI .u32) v36)))
 refine w_regD (.take 0 (.take 1 (.take 2 (.take 3 (.take 4 (.take 5 (.take 6 (.take 7 (.take 8 (.take 10 (.take 11 (.take 12 (.last 9 (.take 13 (.take 14 (.last 15 .done)))))))))))))))) (by kernel_rfl) (⟨[E1, E6, E55, E18], [B7], H14⟩ : St) ?_ ?_
 refine ydk 8 S89 ?_
 refine d_take ⟨[E1, E6, E40, E18, E24, E41, E56, E57, E58, E59, E60, E61, E62, E63, E64], [B7, B25], H14⟩ (st_ix (X := X) S89 42 35 1 h33 (eI .u32) .bl (some 89) (by kernel_rfl) (by kernel_rfl) (by kernel_rfl) (by kernel_rfl)) ?_
 refine ydk 3 ⟨[E1, E6, E40, E18, E24, E41, E56, E57, E58, E59, E60, E61, E62, E63, E64, E65, E66, E67], [B7, B25], H14⟩ ?_
 refine ydl ⟨[E1, E6, E40, E18, E24, E41, E56, E57, E58, E59, E60, E61, E62, E63, E64, E68, E65, E66, E67], [B7, B25], H14⟩ ?_
 refine ydt S90 ?_
 refine d_take S91 (st_ixA (X := X) S90 42 35 1 h35 (eI .u32) (.tmp 8) 0 (List.map (eI .u32) v30).length 0 (some 95) (by kernel_rfl) (by kernel_rfl) (by kernel_rfl) (by kernel_rfl) rfl (List.length_map _) (by kernel_rfl)) ?_
 refine d_last ⟨[E1, E6, E55, E18, E24, E41, E56, E57, E58, E59, (85, .one .top .junk), E61, E62, E63, (89, .one .top .junk), E68, E65, E66, E67, E69, E70], [B7, B25], H14⟩ (st_stE (X := X) S91 (⟨[E1, E6, E55, E18, E24, E41, E56, E57, E58, E59, E60, E61, E62, E63, E64, E68, E65, E66, E67, E69, E70], [B7, B25], H14⟩ : St) ⟨true, [6, 10]⟩ 35 (.tmp 8) (Int.toNat (IntKind.wrap .i64 (x21.At_ + 1))) 0 1 0 (List.map (eI .u32) v30) [.int .u32 x34] ((eI .u32) (bitsOf .or .u32 x32 (IntKind.wrap .u32 (bitsOf .and .i64 j25 65535)))) (List.map (eI .u32) v36) 1 (vu (bitsOf .or .u32 x32 (IntKind.wrap .u32 (bitsOf .and .i64 j25 65535)))) (by kernel_rfl) (by kernel_rfl) (by kernel_rfl) (by kernel_rfl) (by kernel_rfl) (by kernel_rfl) (el_at h35) (by kernel_rfl) (by kernel_rfl) (el_put h37) (by kernel_rfl) (by kernel_rfl)) ?_
 exact yde
 refine yg ⟨[E1, E6, E55, (9, vi (IntKind.wrap .i64 (a19 + 1)))], [B7], H14⟩ ?_
 cases hF
 exact ⟨_, rfl, (by kernel_rfl)⟩
 rcases if_inv hF with ⟨h38, hF⟩ | ⟨h38, hF⟩
 refine yT h38 S81 ?_
 refine w_regO ⟨[E1, E6, E17, E18, E24, E71], [B7, B25], H14⟩ ?_ ?_
 refine yr 1 S92 ?_
 refine o_one ⟨[E1, E6, E17, E18, E24, E72, E73], [B7, B25], H14⟩ (yl S92 a18 (eI .u32) (some 64)) ?_
 refine yr 4 ⟨[E1, E6, E17, E18, E24, E71, E72, E73, (65, vi (IntKind.wrap .i64 (4 * (a18.length : Int)))), (66, vi p1), (67, vi (IntKind.wrap .i64 ((IntKind.wrap .i64 (4 * (a18.length : Int))) + p1)))], [B7, B25], H14⟩ ?_
 exact ye
 exact ⟨(IntKind.wrap .i64 ((IntKind.wrap .i64 (4 * (a18.length : Int))) + p1)), hF, (by kernel_rfl)⟩
 refine yF h38 S84 ?_
 refine w_skip ?_
 exact ⟨(IntKind.wrap .i64 ((IntKind.wrap .i64 (4 * (a18.length : Int))) + x21.Value_)), hF, (by kernel_rfl)⟩
 refine yF h20 ⟨[E17], [], H14⟩ ?_
 refine w_exit ?_
 cases hF
 exact ⟨_, rfl, (by kernel_rfl)⟩
 rcases sum2_inv hF with ⟨r39', rfl, hF⟩ | ⟨r39', rfl, hF⟩
 obtain ⟨b41, hy⟩ : ∃ y, y = r39' := ⟨_, rfl⟩
 subst hy
 refine w_oe (i := 0) (s := (⟨[(8, .one (.own 1) (.sl 1 (List.map (eI .u32) b41)))], [], H14⟩ : St)) (by kernel_rfl) ?_
 refine e_here ?_
 refine ysg ⟨[(4, .one (.own 1) (.sl 1 (List.map (eI .u32) b41))), (5, vT)], [], H14⟩ ?_
 refine w_ret ?_
 obtain ⟨e0, e1, e2⟩ := some3_inv hF
 subst e0
 subst e1
 subst e2
 exact yi (.tup [.one (.own 1) (.sl 1 (List.map (eI .u32) b41)), vT])
 refine w_or (s := S79) (by kernel_rfl) ?_
 obtain ⟨e0, e1, e2⟩ := some3_inv hF
 subst e0
 subst e1
 subst e2
 exact yi (.tup [.one (.own 1) (.sl 1 (List.map (eI .u32) ([] : List Int))), vF])
noncomputable def ref03_New  (p0 : (Arr 5 Int)) : Option (T_ref03_Mem) :=
  bind1 (mks 4 (IntKind.wrap .u32 (Int.tdiv (p0.g 4) 4)) (IntKind.wrap .u32 (Int.tdiv (p0.g 4) 4)) 0) fun v1 =>
  some (T_ref03_Mem.mk p0 v1)
theorem ok_ref03_New (H : Heap) {p0 : (Arr 5 Int)} {ra : T_ref03_Mem} (hF : ref03_New p0 = some ra) : evS X 79 [.agg (arM .u32 5 p0)] H = some (.agg (m0_ref03_Mem ra), H) := by
 let E1 : EN := (1, vl 1 0)
 let E2 : EN := (2, vl 2 0)
 let B3 : EB := (1, (arM .u32 5 p0))
 let B4 : EB := (2, (List.replicate 5 (.top, .int .u32 0) ++ [((.own 1), .sl 1 (List.map (eI .u32) ([] : List Int)))]))
 let E6 : EN := (3, .agg (arM .u32 5 p0))
 let E7 : EN := (4, vl 1 4)
 let E8 : EN := (5, vu (p0.g 4))
 let E9 : EN := (6, vu (IntKind.wrap .u32 (Int.tdiv (p0.g 4) 4)))
 let S10 : St := ⟨[E1, E2, E6, E7, E8, E9], [B3, B4], H⟩
 refine yf Try.func79 true ⟨[(0, .agg (arM .u32 5 p0))], [], H⟩ ?_
 unfold ref03_New at hF
 refine ysg ⟨[E1, E2], [B3, B4], H⟩ ?_
 refine w_seq ?_
 obtain ⟨v1, h2, hF⟩ := bind1_inv hF
 let B5 : EB := (2, (arM .u32 5 p0 ++ [((.own 1), .sl 1 (List.map (eI .u32) v1))]))
 refine w_regD (.take 0 (.take 1 (.take 2 (.take 3 (.last 4 (.take 5 (.last 6 .done))))))) (by kernel_rfl) (⟨[E2], [B5], H⟩ : St) ?_ ?_
 refine ydk 4 S10 ?_
 refine d_last ⟨[E1, E2, E6, E7, E8, E9, (7, .one (.own 1) (.sl 1 (List.map (eI .u32) v1)))], [B3, B4], H⟩ (st_mk (X := X) S10 4 h2 42 35 1 [(.top, .int .u32 0)] (eI .u32) 0 (.u32) (.u32) (some 7) (by kernel_rfl) (by kernel_rfl) (by kernel_rfl) (by kernel_rfl) (by kernel_rfl) (by kernel_rfl) (by kernel_rfl) (by kernel_rfl) (by kernel_rfl) (by kernel_rfl)) ?_
 refine ydt ⟨[E1, E2, E6, E7, E8, E9, (7, .one .top .junk), (8, .agg (arM .u32 5 p0 ++ [((.own 1), .sl 1 (List.map (eI .u32) v1))]))], [B3, B4], H⟩ ?_
 refine ydl ⟨[E1, E2, E6, E7, E8, E9, (7, .one .top .junk), (8, .agg (arM .u32 5 p0 ++ [(.top, .junk)]))], [B3, B5], H⟩ ?_
 exact yde
 refine w_ret ?_
 obtain e0 := some1_inv hF
 subst e0
 exact yp (.agg (arM .u32 5 p0 ++ [((.own 1), .sl 1 (List.map (eI .u32) v1))]))
noncomputable def ref03_with_L1 (p2 : (List Int)) (p1 : Int) (a5 : (List Int)) (a6 : Int) : Option (((List Int) × Int) ⊕ (((List Int)))) :=
  if (decide (a6 < (p2.length : Int))) = true then (bind1 (gi p2 a6) fun x8 =>
  bind1 (gi a5 (IntKind.wrap .i64 (p1 + a6))) fun x10 =>
  bind1 (si a5 (IntKind.wrap .i64 (p1 + a6)) x8) fun v12 =>
  some (Sum.inl (v12, (IntKind.wrap .i64 (a6 + 1)))))
  else (some (Sum.inr a5))
noncomputable def ref03_with  (p0 : T_ref03_Mem) (p1 : Int) (p2 : (List Int)) : Option (T_ref03_Mem) :=
  bind1 (mks 4 (p0.W_.length : Int) (p0.W_.length : Int) 0) fun v1 =>
  bnd (cpy v1 0 p0.W_) fun v3 =>
  bind1 (loopO (fun (x : ((List Int) × Int)) => ref03_with_L1 p2 p1 x.1 x.2) (v3, 0)) (fun b16 =>
  some (T_ref03_Mem.mk p0.Ends_ b16))
theorem ok_ref03_with (H : Heap) {p0 : T_ref03_Mem} {p1 : Int} {p2 : (List Int)} {ra : T_ref03_Mem} (hF : ref03_with p0 p1 p2 = some ra) : evS X 94 [.agg (m0_ref03_Mem p0), .one .top (.int .i64 p1), .one .ro (.sl 1 (List.map (eI .u32) p2))] H = some (.agg (m0_ref03_Mem ra), H) := by
 let E1 : EN := (1, vi p1)
 let E2 : EN := (2, .one .ro (.sl 1 (List.map (eI .u32) p2)))
 let E3 : EN := (3, vl 3 0)
 let E4 : EN := (6, vl 6 0)
 let B5 : EB := (3, (m0_ref03_Mem p0))
 let B6 : EB := (6, (List.replicate 5 (.top, .int .u32 0) ++ [((.own 1), .sl 1 (List.map (eI .u32) ([] : List Int)))]))
 let E8 : EN := (9, vl 3 5)
 let E9 : EN := (10, .one (.own 0) (.sl 1 (List.map (eI .u32) p0.W_)))
 let E10 : EN := (11, vi (p0.W_.length : Int))
 let E13 : EN := (15, .one (.own 0) (.sl 1 (List.map (eI .u32) p0.W_)))
 let E18 : EN := (18, .one .ro (.sl 1 (List.map (eI .u32) p2)))
 let E21 : EN := (24, vi p1)
 let E24 : EN := (27, .one .ro (.sl 1 (List.map (eI .u32) p2)))
 let S29 : St := ⟨[E1, E2, E3, E4, E8, E9], [B5, B6], H⟩
 let S30 : St := ⟨[E1, E2, E3, E4, E8, E9, E10], [B5, B6], H⟩
 refine yf Try.func94 true ⟨[(0, .agg (m0_ref03_Mem p0)), E1, E2], [], H⟩ ?_
 unfold ref03_with at hF
 refine ysg ⟨[E1, E2, E3, E4], [B5, B6], H⟩ ?_
 refine w_seq ?_
 obtain ⟨v1, h2, hF⟩ := bind1_inv hF
 let E7 : EN := (7, .one (.own 1) (.sl 1 (List.map (eI .u32) v1)))
 let E12 : EN := (13, .one .top (.at_ (.tmp 7) 0 ((List.map (eI .u32) v1).length)))
 let S31 : St := ⟨[E1, E2, E3, E4, E7, E12, (14, vl 3 5), E13], [B5, B6], H⟩
 refine w_regO ⟨[E1, E2, E3, E4, E7], [B5, B6], H⟩ ?_ ?_
 refine yr 2 S29 ?_
 refine o_one S30 (yl S29 p0.W_ (eI .u32) (some 11)) ?_
 refine o_one ⟨[E1, E2, E3, E4, E8, E9, E10, (12, .one (.own 1) (.sl 1 (List.map (eI .u32) v1)))], [B5, B6], H⟩ (st_mk (X := X) S30 4 h2 42 35 1 [(.top, .int .u32 0)] (eI .u32) 0 (.i64) (.i64) (some 12) (by kernel_rfl) (by kernel_rfl) (by kernel_rfl) (by kernel_rfl) (by kernel_rfl) (by kernel_rfl) (by kernel_rfl) (by kernel_rfl) (by kernel_rfl) (by kernel_rfl)) ?_
 refine yr 1 ⟨[E1, E2, E3, E4, E7, E8, E9, E10, (12, .one .top .junk)], [B5, B6], H⟩ ?_
 exact ye
 refine w_seq ?_
 obtain ⟨v3, h4, hF⟩ := bnd_inv hF
 let E11 : EN := (7, .one (.own 1) (.sl 1 (List.map (eI .u32) v3)))
 refine w_regO ⟨[E1, E2, E3, E4, E11], [B5, B6], H⟩ ?_ ?_
 refine yr 3 S31 ?_
 refine o_one ⟨[E1, E2, E3, E4, E11, E12, (14, vl 3 5), E13, (16, vi (((min p0.W_.length (v1.length - 0) : Nat)) : Int))], [B5, B6], H⟩ (st_cpT (X := X) S31 42 35 0 1 (eI .u32) 7 (.own 0) v1 p0.W_ 0 h4 (some 16) ⟨true, []⟩ (Nat.zero_le _) (by kernel_rfl) (by kernel_rfl) (by kernel_rfl) (fun _ => rfl) (fun _ => rfl) (by kernel_rfl) (by kernel_rfl)) ?_
 exact ye
 refine w_seq ?_
 refine ysg ⟨[E1, E2, E3, E4, E11, (8, vi 0)], [B5, B6], H⟩ ?_
 refine w_block ?_
 obtain ⟨r14, hL15, hF⟩ := bind1_inv hF
 refine w_loop (fun (x : ((List Int) × Int)) => (⟨[E1, E2, E3, E4, (7, .one (.own 1) (.sl 1 (List.map (eI .u32) x.1))), (8, vi x.2)], [B5, B6], H⟩ : St)) (fun (y : ((List Int))) => ((.exit 0, (⟨[E3, E4, (7, .one (.own 1) (.sl 1 (List.map (eI .u32) y)))], [B5, B6], H⟩ : St)) : Ex × St)) hL15 (by kernel_rfl) ?_ ?_
 rintro ⟨a5, a6⟩ o hF
 replace hF : ref03_with_L1 p2 p1 a5 a6 = some o := hF
 let E14 : EN := (7, .one (.own 1) (.sl 1 (List.map (eI .u32) a5)))
 let E15 : EN := (8, vi a6)
 let E16 : EN := (20, vb (decide (a6 < (p2.length : Int))))
 let E17 : EN := (17, vi a6)
 let E20 : EN := (23, .one .top (.at_ (.tmp 7) 0 ((List.map (eI .u32) a5).length)))
 let E22 : EN := (25, vi a6)
 let E23 : EN := (26, vi (IntKind.wrap .i64 (p1 + a6)))
 let E25 : EN := (28, vi a6)
 let E28 : EN := (31, .one .top (.el (.tmp 7) (Int.toNat (IntKind.wrap .i64 (p1 + a6))) 0))
 let S32 : St := ⟨[E1, E2, E3, E4, E14, E15, E17, E18], [B5, B6], H⟩
 let S33 : St := ⟨[E1, E2, E3, E4, E14, E15, E20, E21, E22, E23, E24, E25], [B5, B6], H⟩
 unfold ref03_with_L1 at hF
 refine w_seq ?_
 refine yso ⟨[E1, E2, E3, E4, E14, E15, E16], [B5, B6], H⟩ ?_ ?_
 refine yr 2 S32 ?_
 refine o_one ⟨[E1, E2, E3, E4, E14, E15, E17, E18, (19, vi (p2.length : Int))], [B5, B6], H⟩ (yl S32 p2 (eI .u32) (some 19)) ?_
 refine yr 1 ⟨[E1, E2, E3, E4, E14, E15, E17, E18, (19, vi (p2.length : Int)), E16], [B5, B6], H⟩ ?_
 exact ye
 rcases if_inv hF with ⟨h7, hF⟩ | ⟨h7, hF⟩
 refine yT h7 ⟨[E1, E2, E3, E4, E14, E15], [B5, B6], H⟩ ?_
 refine w_skip ?_
 refine w_seq ?_
 refine w_block ?_
 obtain ⟨x8, h9, hF⟩ := bind1_inv hF
 let E26 : EN := (29, .one .top (.rd .ro .ro [.int .u32 x8] 0))
 let E27 : EN := (30, vu x8)
 let S34 : St := ⟨[E1, E2, E3, E4, E14, E15, E20, E21, E22, E23, E24, E25, E26, E27], [B5, B6], H⟩
 let S35 : St := ⟨[E1, E2, E3, E4, E14, E15, E20, E21, E22, E23, E24, E25, E26, E27, E28], [B5, B6], H⟩
 obtain ⟨x10, h11, hF⟩ := bind1_inv hF
 obtain ⟨v12, h13, hF⟩ := bind1_inv hF
 let E19 : EN := (7, .one (.own 1) (.sl 1 (List.map (eI .u32) v12)))
 let S36 : St := ⟨[E1, E2, E3, E4, E19, E15, E20, E21, E22, E23, E24, E25, E26, E27, E28], [B5, B6], H⟩
 refine w_regO ⟨[E1, E2, E3, E4, E19, E15], [B5, B6], H⟩ ?_ ?_
 refine yr 6 S33 ?_
 refine o_one ⟨[E1, E2, E3, E4, E14, E15, E20, E21, E22, E23, E24, E25, E26], [B5, B6], H⟩ (st_ix (X := X) S33 42 35 1 h9 (eI .u32) .ro (some 29) (by kernel_rfl) (by kernel_rfl) (by kernel_rfl) (by kernel_rfl)) ?_
 refine yr 1 S34 ?_
 refine o_one S35 (st_ixA (X := X) S34 42 35 1 h11 (eI .u32) (.tmp 7) 0 (List.map (eI .u32) a5).length 0 (some 31) (by kernel_rfl) (by kernel_rfl) (by kernel_rfl) (by kernel_rfl) rfl (List.length_map _) (by kernel_rfl)) ?_
 refine o_one S36 (st_stE (X := X) S35 S36 ⟨true, []⟩ 35 (.tmp 7) (Int.toNat (IntKind.wrap .i64 (p1 + a6))) 0 1 0 (List.map (eI .u32) a5) [.int .u32 x10] ((eI .u32) x8) (List.map (eI .u32) v12) 1 (vu x8) (by kernel_rfl) (by kernel_rfl) (by kernel_rfl) (by kernel_rfl) (by kernel_rfl) (by kernel_rfl) (el_at h11) (by kernel_rfl) (by kernel_rfl) (el_put h13) (by kernel_rfl) (by kernel_rfl)) ?_
 exact ye
 refine yg ⟨[E1, E2, E3, E4, E19, (8, vi (IntKind.wrap .i64 (a6 + 1)))], [B5, B6], H⟩ ?_
 cases hF
 exact ⟨_, rfl, (by kernel_rfl)⟩
 refine yF h7 ⟨[E3, E4, E14], [B5, B6], H⟩ ?_
 refine w_exit ?_
 cases hF
 exact ⟨_, rfl, (by kernel_rfl)⟩
 obtain ⟨b16, hy⟩ : ∃ y, y = r14 := ⟨_, rfl⟩
 subst hy
 refine w_oe (i := 0) (s := (⟨[E3, E4, (7, .one (.own 1) (.sl 1 (List.map (eI .u32) b16)))], [B5, B6], H⟩ : St)) (by kernel_rfl) ?_
 refine e_here ?_
 refine ysg ⟨[E3, E4], [(3, (arM .u32 5 p0.Ends_ ++ [((.own 1), .sl 1 (List.map (eI .u32) b16))])), B6], H⟩ ?_
 refine ysg ⟨[E4], [(6, (arM .u32 5 p0.Ends_ ++ [((.own 1), .sl 1 (List.map (eI .u32) b16))]))], H⟩ ?_
 refine w_ret ?_
 obtain e0 := some1_inv hF
 subst e0
 exact yp (.agg (arM .u32 5 p0.Ends_ ++ [((.own 1), .sl 1 (List.map (eI .u32) b16))]))
noncomputable def ref03_Fill  (p0 : T_ref03_Mem) (p1 : Int) (p2 : (List Int)) : Option (T_ref03_Mem × Int) :=
  if ((Int.tmod p1 4) != 0) = true then (some (p0, 30))
  else (if (decide ((IntKind.wrap .i64 ((IntKind.wrap .i64 (IntKind.wrap .u32 (Int.tdiv p1 4))) + (p2.length : Int))) > (p0.W_.length : Int))) = true then (some (p0, 31))
  else (bind1 (ref03_with p0 (IntKind.wrap .i64 (IntKind.wrap .u32 (Int.tdiv p1 4))) p2) fun r3 =>
  some (r3, 0)))
theorem ok_ref03_Fill (H : Heap) {p0 : T_ref03_Mem} {p1 : Int} {p2 : (List Int)} {ra : T_ref03_Mem} {rb : Int} (hF : ref03_Fill p0 p1 p2 = some (ra, rb)) : evS X 57 [.agg (m0_ref03_Mem p0), .one .top (.int .u32 p1), .one .ro (.sl 1 (List.map (eI .u32) p2))] H = some (.tup [.agg (m0_ref03_Mem ra), .one .top (.int .i64 rb)], H) := by
 let E1 : EN := (1, vu p1)
 let E2 : EN := (2, .one .ro (.sl 1 (List.map (eI .u32) p2)))
 let E3 : EN := (3, vl 3 0)
 let E4 : EN := (6, vl 6 0)
 let B5 : EB := (3, (m0_ref03_Mem p0))
 let B6 : EB := (6, (List.replicate 5 (.top, .int .u32 0) ++ [((.own 1), .sl 1 (List.map (eI .u32) ([] : List Int)))]))
 let E7 : EN := (21, vb (decide ((IntKind.wrap .i64 ((IntKind.wrap .i64 (IntKind.wrap .u32 (Int.tdiv p1 4))) + (p2.length : Int))) > (p0.W_.length : Int))))
 let E8 : EN := (12, vu p1)
 let E9 : EN := (13, vu (IntKind.wrap .u32 (Int.tdiv p1 4)))
 let E10 : EN := (14, vi (IntKind.wrap .i64 (IntKind.wrap .u32 (Int.tdiv p1 4))))
 let E11 : EN := (15, .one .ro (.sl 1 (List.map (eI .u32) p2)))
 let E12 : EN := (16, vi (p2.length : Int))
 let E13 : EN := (17, vi (IntKind.wrap .i64 ((IntKind.wrap .i64 (IntKind.wrap .u32 (Int.tdiv p1 4))) + (p2.length : Int))))
 let E14 : EN := (18, vl 3 5)
 let E15 : EN := (19, .one (.own 0) (.sl 1 (List.map (eI .u32) p0.W_)))
 let E16 : EN := (20, vi (p0.W_.length : Int))
 let E17 : EN := (23, .agg (m0_ref03_Mem p0))
 let E18 : EN := (24, vu p1)
 let E19 : EN := (25, vu (IntKind.wrap .u32 (Int.tdiv p1 4)))
 let E20 : EN := (26, vi (IntKind.wrap .i64 (IntKind.wrap .u32 (Int.tdiv p1 4))))
 let E21 : EN := (27, .one .ro (.sl 1 (List.map (eI .u32) p2)))
 let S23 : St := ⟨[E1, E2, E3, E4], [B5, B6], H⟩
 let S24 : St := ⟨[E3, E4], [B5, B6], H⟩
 let S25 : St := ⟨[E1, E2, E3, E4, E8, E9, E10, E11], [B5, B6], H⟩
 let S26 : St := ⟨[E1, E2, E3, E4, E8, E9, E10, E11, E12, E13, E14, E15], [B5, B6], H⟩
 let S27 : St := ⟨[E1, E2, E3, E4, E17, E18, E19, E20, E21], [B5, B6], H⟩
 refine yf Try.func57 true ⟨[(0, .agg (m0_ref03_Mem p0)), E1, E2], [], H⟩ ?_
 unfold ref03_Fill at hF
 refine ysg S23 ?_
 refine w_seq ?_
 refine ysg ⟨[E1, E2, E3, E4, (10, vb ((Int.tmod p1 4) != 0))], [B5, B6], H⟩ ?_
 rcases if_inv hF with ⟨h1, hF⟩ | ⟨h1, hF⟩
 refine yT h1 S24 ?_
 refine ysg ⟨[E4, (7, vi 30)], [(6, (m0_ref03_Mem p0))], H⟩ ?_
 refine w_ret ?_
 obtain ⟨e0, e1⟩ := some2_inv hF
 subst e0
 subst e1
 exact yp (.tup [.agg (m0_ref03_Mem p0), vi 30])
 refine yF h1 S23 ?_
 refine w_skip ?_
 refine w_seq ?_
 refine yso ⟨[E1, E2, E3, E4, E7], [B5, B6], H⟩ ?_ ?_
 refine yr 4 S25 ?_
 refine o_one ⟨[E1, E2, E3, E4, E8, E9, E10, E11, E12], [B5, B6], H⟩ (yl S25 p2 (eI .u32) (some 16)) ?_
 refine yr 3 S26 ?_
 refine o_one ⟨[E1, E2, E3, E4, E8, E9, E10, E11, E12, E13, E14, E15, E16], [B5, B6], H⟩ (yl S26 p0.W_ (eI .u32) (some 20)) ?_
 refine yr 1 ⟨[E1, E2, E3, E4, E8, E9, E10, E11, E12, E13, E14, E15, E16, E7], [B5, B6], H⟩ ?_
 exact ye
 rcases if_inv hF with ⟨h2, hF⟩ | ⟨h2, hF⟩
 refine yT h2 S24 ?_
 refine ysg ⟨[E4, (7, vi 31)], [(6, (m0_ref03_Mem p0))], H⟩ ?_
 refine w_ret ?_
 obtain ⟨e0, e1⟩ := some2_inv hF
 subst e0
 subst e1
 exact yp (.tup [.agg (m0_ref03_Mem p0), vi 31])
 refine yF h2 S23 ?_
 refine w_skip ?_
 refine w_seq ?_
 obtain ⟨r3, c4, hF⟩ := bind1_inv hF
 let E22 : EN := (28, .agg (m0_ref03_Mem r3))
 refine w_regO ⟨[E4, (7, vi 0)], [(6, (m0_ref03_Mem r3))], H⟩ ?_ ?_
 refine yr 5 S27 ?_
 refine o_one ⟨[E1, E2, E3, E4, E17, E18, E19, E20, E21, E22], [B5, B6], H⟩ (yc (some 28) true false S27 (ok_ref03_with H c4)) ?_
 refine yr 2 ⟨[E1, E2, E3, E4, (7, vi 0), E17, E18, E19, E20, E21, E22], [B5, (6, (m0_ref03_Mem r3))], H⟩ ?_
 exact ye
 refine w_ret ?_
 obtain ⟨e0, e1⟩ := some2_inv hF
 subst e0
 subst e1
 exact yp (.tup [.agg (m0_ref03_Mem r3), vi 0])
noncomputable def ref03_Load  (p0 : T_ref03_Mem) (p1 : Int) : Option (Int × Int) :=
  if ((Int.tmod p1 4) != 0) = true then (some (0, 30))
  else (if (decide ((IntKind.wrap .i64 (IntKind.wrap .u32 (Int.tdiv p1 4))) ≥ (p0.W_.length : Int))) = true then (some (0, 31))
  else (bind1 (gi p0.W_ (IntKind.wrap .u32 (Int.tdiv p1 4))) fun x3 =>
  some (x3, 0)))
theorem ok_ref03_Load (H : Heap) {p0 : T_ref03_Mem} {p1 : Int} {ra : Int} {rb : Int} (hF : ref03_Load p0 p1 = some (ra, rb)) : evS X 39 [.agg (m0_ref03_Mem p0), .one .top (.int .u32 p1)] H = some (.tup [.one .top (.int .u32 ra), .one .top (.int .i64 rb)], H) := by
 let E1 : EN := (1, vu p1)
 let E2 : EN := (2, vl 2 0)
 let B3 : EB := (2, (m0_ref03_Mem p0))
 let E4 : EN := (15, vb (decide ((IntKind.wrap .i64 (IntKind.wrap .u32 (Int.tdiv p1 4))) ≥ (p0.W_.length : Int))))
 let E5 : EN := (10, vu (IntKind.wrap .u32 (Int.tdiv p1 4)))
 let E6 : EN := (11, vi (IntKind.wrap .i64 (IntKind.wrap .u32 (Int.tdiv p1 4))))
 let E7 : EN := (12, vl 2 5)
 let E8 : EN := (13, .one (.own 0) (.sl 1 (List.map (eI .u32) p0.W_)))
 let E9 : EN := (14, vi (p0.W_.length : Int))
 let E10 : EN := (16, vl 2 5)
 let E11 : EN := (17, .one (.own 0) (.sl 1 (List.map (eI .u32) p0.W_)))
 let E12 : EN := (18, vu p1)
 let E13 : EN := (19, vu (IntKind.wrap .u32 (Int.tdiv p1 4)))
 let S15 : St := ⟨[E1, E2], [B3], H⟩
 let S16 : St := ⟨[E1, E2, (9, vu p1), E5, E6, E7, E8], [B3], H⟩
 let S17 : St := ⟨[E1, E2, E10, E11, E12, E13], [B3], H⟩
 refine yf Try.func39 true ⟨[(0, .agg (m0_ref03_Mem p0)), E1], [], H⟩ ?_
 unfold ref03_Load at hF
 refine ysg S15 ?_
 refine w_seq ?_
 refine ysg ⟨[E1, E2, (8, vb ((Int.tmod p1 4) != 0))], [B3], H⟩ ?_
 rcases if_inv hF with ⟨h1, hF⟩ | ⟨h1, hF⟩
 refine yT h1 ⟨[], [], H⟩ ?_
 refine ysg ⟨[(4, vu 0), (5, vi 30)], [], H⟩ ?_
 refine w_ret ?_
 obtain ⟨e0, e1⟩ := some2_inv hF
 subst e0
 subst e1
 exact yp (.tup [vu 0, vi 30])
 refine yF h1 S15 ?_
 refine w_skip ?_
 refine w_seq ?_
 refine yso ⟨[E1, E2, E4], [B3], H⟩ ?_ ?_
 refine yr 5 S16 ?_
 refine o_one ⟨[E1, E2, (9, vu p1), E5, E6, E7, E8, E9], [B3], H⟩ (yl S16 p0.W_ (eI .u32) (some 14)) ?_
 refine yr 1 ⟨[E1, E2, (9, vu p1), E5, E6, E7, E8, E9, E4], [B3], H⟩ ?_
 exact ye
 rcases if_inv hF with ⟨h2, hF⟩ | ⟨h2, hF⟩
 refine yT h2 ⟨[], [], H⟩ ?_
 refine ysg ⟨[(4, vu 0), (5, vi 31)], [], H⟩ ?_
 refine w_ret ?_
 obtain ⟨e0, e1⟩ := some2_inv hF
 subst e0
 subst e1
 exact yp (.tup [vu 0, vi 31])
 refine yF h2 S15 ?_
 refine w_skip ?_
 refine w_seq ?_
 obtain ⟨x3, h4, hF⟩ := bind1_inv hF
 let E14 : EN := (20, .one .top (.rd (.own 0) (.own 0) [.int .u32 x3] 0))
 refine w_regO ⟨[(4, vu x3), (5, vi 0)], [], H⟩ ?_ ?_
 refine yr 4 S17 ?_
 refine o_one ⟨[E1, E2, E10, E11, E12, E13, E14], [B3], H⟩ (st_ix (X := X) S17 42 35 1 h4 (eI .u32) (.own 0) (some 20) (by kernel_rfl) (by kernel_rfl) (by kernel_rfl) (by kernel_rfl)) ?_
 refine yr 3 ⟨[E1, E2, (4, vu x3), (5, vi 0), E10, E11, E12, E13, E14, (21, vu x3)], [B3], H⟩ ?_
 exact ye
 refine w_ret ?_
 obtain ⟨e0, e1⟩ := some2_inv hF
 subst e0
 subst e1
 exact yp (.tup [vu x3, vi 0])
noncomputable def ref03_Fetch  (p0 : T_ref03_Mem) (p1 : Int) : Option (Int × Int) :=
  bind2 (ref03_Load p0 p1) fun r1 r2 =>
  if ((r2 == 0) && (decide (p1 ≥ (p0.Ends_.g 0)))) = true then (some (0, 31))
  else (some (r1, r2))
theorem ok_ref03_Fetch (H : Heap) {p0 : T_ref03_Mem} {p1 : Int} {ra : Int} {rb : Int} (hF : ref03_Fetch p0 p1 = some (ra, rb)) : evS X 95 [.agg (m0_ref03_Mem p0), .one .top (.int .u32 p1)] H = some (.tup [.one .top (.int .u32 ra), .one .top (.int .i64 rb)], H) := by
 let E1 : EN := (1, vu p1)
 let E2 : EN := (2, vl 2 0)
 let B3 : EB := (2, (m0_ref03_Mem p0))
 let E6 : EN := (9, .agg (m0_ref03_Mem p0))
 let E7 : EN := (10, vu p1)
 let S9 : St := ⟨[E1, E2, E6, E7], [B3], H⟩
 refine yf Try.func95 true ⟨[(0, .agg (m0_ref03_Mem p0)), E1], [], H⟩ ?_
 unfold ref03_Fetch at hF
 refine ysg ⟨[E1, E2], [B3], H⟩ ?_
 refine w_seq ?_
 obtain ⟨r1, r2, c3, hF⟩ := bind2_inv hF
 let E4 : EN := (6, vu r1)
 let E5 : EN := (7, vi r2)
 let E8 : EN := (14, vi r2)
 refine w_regO ⟨[E1, E2, E4, E5], [B3], H⟩ ?_ ?_
 refine yr 2 S9 ?_
 refine o_one ⟨[E1, E2, E6, E7, (11, .tup [vu r1, vi r2])], [B3], H⟩ (yc (some 11) true false S9 (ok_ref03_Load H c3)) ?_
 refine yr 5 ⟨[E1, E2, E4, E5, (8, .tup [vu r1, vi r2]), E6, E7, (11, .tup [vu r1, vi r2]), (12, vu r1), (13, vi r2)], [B3], H⟩ ?_
 exact ye
 refine w_seq ?_
 refine yso ⟨[E4, E5, (22, vb ((r2 == 0) && (decide (p1 ≥ (p0.Ends_.g 0)))))], [], H⟩ ?_ ?_
 refine yr 3 ⟨[E1, E2, E4, E5, E8, (15, vb (r2 == 0)), (16, vb (r2 == 0))], [B3], H⟩ ?_
 rcases bool_cases (r2 == 0) with h4 | h4
 refine o_eq (congrArg (fun q => (⟨[E1, E2, E4, E5, E8, (15, vb q), (16, vb q)], [B3], H⟩ : St)) h4) ?_
 refine yr 6 ⟨[E1, E2, E4, E5, E8, (15, vT), (16, vT), (17, vu p1), (18, vl 2 0), (19, vl 2 0), (20, vu (p0.Ends_.g 0)), (21, vb (decide (p1 ≥ (p0.Ends_.g 0)))), (22, vb (decide (p1 ≥ (p0.Ends_.g 0))))], [B3], H⟩ ?_
 refine o_eq2 (congrArg (fun q0 => (⟨[E4, E5, (22, vb q0)], [], H⟩ : St)) (show (decide (p1 ≥ (p0.Ends_.g 0))) = ((r2 == 0) && (decide (p1 ≥ (p0.Ends_.g 0)))) by simp [h4])) ?_
 exact ye
 refine o_eq (congrArg (fun q => (⟨[E1, E2, E4, E5, E8, (15, vb q), (16, vb q)], [B3], H⟩ : St)) h4) ?_
 refine yr 6 ⟨[E1, E2, E4, E5, E8, (15, vF), (16, vF), (17, vN), (18, vN), (19, vN), (20, vN), (21, vN), (22, vF)], [B3], H⟩ ?_
 refine o_eq2 (congrArg (fun q0 => (⟨[E4, E5, (22, vb q0)], [], H⟩ : St)) (show false = ((r2 == 0) && (decide (p1 ≥ (p0.Ends_.g 0)))) by simp [h4])) ?_
 exact ye
 rcases if_inv hF with ⟨h5, hF⟩ | ⟨h5, hF⟩
 refine yT h5 ⟨[], [], H⟩ ?_
 refine ysg ⟨[(4, vu 0), (5, vi 31)], [], H⟩ ?_
 refine w_ret ?_
 obtain ⟨e0, e1⟩ := some2_inv hF
 subst e0
 subst e1
 exact yp (.tup [vu 0, vi 31])
 refine yF h5 ⟨[E4, E5], [], H⟩ ?_
 refine w_skip ?_
 refine ysg ⟨[(4, vu r1), (5, vi r2)], [], H⟩ ?_
 refine w_ret ?_
 obtain ⟨e0, e1⟩ := some2_inv hF
 subst e0
 subst e1
 exact yp (.tup [vu r1, vi r2])
noncomputable def ref04_fault  (p0 : T_ref04_Cpu) (p1 : Int) : Option (T_ref04_Cpu) :=
  some (T_ref04_Cpu.mk p0.R_ p0.PC_ p0.EPC_ p0.Cause_ 2 p1 p0.Steps_ p0.Taken_ p0.Out_ p0.Entry_ p0.Vector_ p0.Guard_ p0.Limit_ p0.Input_)
theorem ok_ref04_fault (H : Heap) {p0 : T_ref04_Cpu} {p1 : Int} {ra : T_ref04_Cpu} (hF : ref04_fault p0 p1 = some ra) : evS X 96 [.agg (m1_ref04_Cpu p0), .one .top (.int .i64 p1)] H = some (.agg (m1_ref04_Cpu ra), H) := by
 let B1 : EB := (4, (List.replicate 19 (.top, .int .u32 0) ++ List.replicate 4 (.top, .int .i64 0) ++ [((.own 1), .sl 2 (List.map e_api_Event ([] : List T_api_Event)))] ++ List.replicate 4 (.top, .int .u32 0) ++ [((.own 1), .sl 1 (List.map (eI .i32) ([] : List Int)))]))
 refine yf Try.func96 true ⟨[(0, .agg (m1_ref04_Cpu p0)), (1, vi p1)], [], H⟩ ?_
 unfold ref04_fault at hF
 refine ysg ⟨[(1, vi p1), (2, vl 2 0), (4, vl 4 0)], [(2, (m1_ref04_Cpu p0)), B1], H⟩ ?_
 refine ysg ⟨[(2, vl 2 0), (4, vl 4 0)], [(2, (arM .u32 16 p0.R_ ++ [(.top, .int .u32 p0.PC_), (.top, .int .u32 p0.EPC_), (.top, .int .u32 p0.Cause_), (.top, .int .i64 2), (.top, .int .i64 p1), (.top, .int .i64 p0.Steps_), (.top, .int .i64 p0.Taken_), ((.own 0), .sl 2 (List.map e_api_Event p0.Out_)), (.top, .int .u32 p0.Entry_), (.top, .int .u32 p0.Vector_), (.top, .int .u32 p0.Guard_), (.top, .int .u32 p0.Limit_), ((.own 0), .sl 1 (List.map (eI .i32) p0.Input_))])), B1], H⟩ ?_
 refine ysg ⟨[(4, vl 4 0)], [(4, (arM .u32 16 p0.R_ ++ [(.top, .int .u32 p0.PC_), (.top, .int .u32 p0.EPC_), (.top, .int .u32 p0.Cause_), (.top, .int .i64 2), (.top, .int .i64 p1), (.top, .int .i64 p0.Steps_), (.top, .int .i64 p0.Taken_), ((.own 0), .sl 2 (List.map e_api_Event p0.Out_)), (.top, .int .u32 p0.Entry_), (.top, .int .u32 p0.Vector_), (.top, .int .u32 p0.Guard_), (.top, .int .u32 p0.Limit_), ((.own 0), .sl 1 (List.map (eI .i32) p0.Input_))]))], H⟩ ?_
 refine w_ret ?_
 obtain e0 := some1_inv hF
 subst e0
 exact yp (.agg (arM .u32 16 p0.R_ ++ [(.top, .int .u32 p0.PC_), (.top, .int .u32 p0.EPC_), (.top, .int .u32 p0.Cause_), (.top, .int .i64 2), (.top, .int .i64 p1), (.top, .int .i64 p0.Steps_), (.top, .int .i64 p0.Taken_), ((.own 0), .sl 2 (List.map e_api_Event p0.Out_)), (.top, .int .u32 p0.Entry_), (.top, .int .u32 p0.Vector_), (.top, .int .u32 p0.Guard_), (.top, .int .u32 p0.Limit_), ((.own 0), .sl 1 (List.map (eI .i32) p0.Input_))]))
noncomputable def ref02_Shape_j6 (p0 : Int) (j14 : Bool) : Option (Int) :=
  if j14 = true then (some 7)
  else (if (p0 == 28) = true then (some 8)
  else (some (-1)))
noncomputable def ref02_Shape_j5 (p0 : Int) (j12 : Bool) : Option (Int) :=
  if j12 = true then (some 6)
  else (if (p0 == 22) = true then (ref02_Shape_j6 p0 (p0 == 22))
  else (ref02_Shape_j6 p0 (p0 == 23)))
noncomputable def ref02_Shape_j7 (p0 : Int) (j19 : Bool) : Option (Int) :=
  ref02_Shape_j5 p0 j19
noncomputable def ref02_Shape_j8 (p0 : Int) (j21 : Bool) : Option (Int) :=
  ref02_Shape_j7 p0 j21
noncomputable def ref02_Shape_j9 (p0 : Int) (j23 : Bool) : Option (Int) :=
  ref02_Shape_j8 p0 j23
noncomputable def ref02_Shape_j10 (p0 : Int) (j25 : Bool) : Option (Int) :=
  ref02_Shape_j9 p0 j25
noncomputable def ref02_Shape_j4 (p0 : Int) (j10 : Bool) : Option (Int) :=
  if j10 = true then (some 4)
  else (if (p0 == 24) = true then (ref02_Shape_j5 p0 (p0 == 24))
  else (if (p0 == 25) = true then (ref02_Shape_j7 p0 (p0 == 25))
  else (if (p0 == 27) = true then (ref02_Shape_j8 p0 (p0 == 27))
  else (if (p0 == 29) = true then (ref02_Shape_j9 p0 (p0 == 29))
  else (if (p0 == 31) = true then (ref02_Shape_j10 p0 (p0 == 31))
  else (ref02_Shape_j10 p0 (p0 == 32)))))))
noncomputable def ref02_Shape_j11 (p0 : Int) (j28 : Bool) : Option (Int) :=
  ref02_Shape_j4 p0 j28
noncomputable def ref02_Shape_j3 (p0 : Int) (j8 : Bool) : Option (Int) :=
  if j8 = true then (some 3)
  else (if (p0 == 4) = true then (ref02_Shape_j4 p0 (p0 == 4))
  else (if (p0 == 26) = true then (ref02_Shape_j11 p0 (p0 == 26))
  else (ref02_Shape_j11 p0 (p0 == 34))))
noncomputable def ref02_Shape_j12 (p0 : Int) (j31 : Bool) : Option (Int) :=
  ref02_Shape_j3 p0 j31
noncomputable def ref02_Shape_j2 (p0 : Int) (j6 : Bool) : Option (Int) :=
  if j6 = true then (some 2)
  else (if (p0 == 5) = true then (ref02_Shape_j3 p0 (p0 == 5))
  else (if (p0 == 18) = true then (ref02_Shape_j12 p0 (p0 == 18))
  else (ref02_Shape_j12 p0 (p0 == 19))))
noncomputable def ref02_Shape_j13 (p0 : Int) (j34 : Bool) : Option (Int) :=
  ref02_Shape_j2 p0 j34
noncomputable def ref02_Shape_j1 (p0 : Int) (j4 : Bool) : Option (Int) :=
  if j4 = true then (some 1)
  else (if (p0 == 3) = true then (ref02_Shape_j2 p0 (p0 == 3))
  else (if (p0 == 30) = true then (ref02_Shape_j13 p0 (p0 == 30))
  else (ref02_Shape_j13 p0 (p0 == 33))))
noncomputable def ref02_Shape_j14 (p0 : Int) (j37 : Bool) : Option (Int) :=
  ref02_Shape_j1 p0 j37
noncomputable def ref02_Shape  (p0 : Int) : Option (Int) :=
  if ((decide (p0 ≥ 6)) && (decide (p0 ≤ 17))) = true then (some 5)
  else (if (p0 == 1) = true then (some 0)
  else (if (p0 == 2) = true then (ref02_Shape_j1 p0 (p0 == 2))
  else (if (p0 == 20) = true then (ref02_Shape_j14 p0 (p0 == 20))
  else (ref02_Shape_j14 p0 (p0 == 21)))))
theorem ok_ref02_Shape (H : Heap) {p0 : Int} {ra : Int} (hF : ref02_Shape p0 = some ra) : evS X 91 [.one .top (.int .i64 p0)] H = some (.one .top (.int .i64 ra), H) := by
 let E1 : EN := (0, vi p0)
 let E2 : EN := (3, vi p0)
 let E3 : EN := (9, vi p0)
 let S4 : St := ⟨[E1], [], H⟩
 let S5 : St := ⟨[], [], H⟩
 let S6 : St := ⟨[E3], [], H⟩
 let S7 : St := ⟨[E3, (12, vb (p0 == 2))], [], H⟩
 let S8 : St := ⟨[E3, (16, vb (p0 == 3))], [], H⟩
 let S9 : St := ⟨[E3, (20, vb (p0 == 5))], [], H⟩
 let S10 : St := ⟨[E3, (24, vb (p0 == 4))], [], H⟩
 let S11 : St := ⟨[E3, (28, vb (p0 == 24))], [], H⟩
 let S12 : St := ⟨[E3, (35, vb (p0 == 22))], [], H⟩
 let S13 : St := ⟨[E3, (28, vb (p0 == 25))], [], H⟩
 let S14 : St := ⟨[E3, (28, vb (p0 == 27))], [], H⟩
 let S15 : St := ⟨[E3, (28, vb (p0 == 29))], [], H⟩
 let S16 : St := ⟨[E3, (28, vb (p0 == 31))], [], H⟩
 let S17 : St := ⟨[E3, (24, vb (p0 == 26))], [], H⟩
 let S18 : St := ⟨[E3, (20, vb (p0 == 18))], [], H⟩
 let S19 : St := ⟨[E3, (16, vb (p0 == 30))], [], H⟩
 let S20 : St := ⟨[E3, (12, vb (p0 == 20))], [], H⟩
 refine yf Try.func91 true S4 ?_
 unfold ref02_Shape at hF
 refine ysg S4 ?_
 refine w_seq ?_
 refine yso ⟨[E1, (8, vb ((decide (p0 ≥ 6)) && (decide (p0 ≤ 17))))], [], H⟩ ?_ ?_
 refine yr 3 ⟨[E1, E2, (4, vb (decide (p0 ≥ 6))), (5, vb (decide (p0 ≥ 6)))], [], H⟩ ?_
 rcases bool_cases (decide (p0 ≥ 6)) with h1 | h1
 refine o_eq (congrArg (fun q => (⟨[E1, E2, (4, vb q), (5, vb q)], [], H⟩ : St)) h1) ?_
 refine yr 3 ⟨[E1, E2, (4, vT), (5, vT), (6, vi p0), (7, vb (decide (p0 ≤ 17))), (8, vb (decide (p0 ≤ 17)))], [], H⟩ ?_
 refine o_eq2 (congrArg (fun q0 => (⟨[E1, (8, vb q0)], [], H⟩ : St)) (show (decide (p0 ≤ 17)) = ((decide (p0 ≥ 6)) && (decide (p0 ≤ 17))) by simp [h1])) ?_
 exact ye
 refine o_eq (congrArg (fun q => (⟨[E1, E2, (4, vb q), (5, vb q)], [], H⟩ : St)) h1) ?_
 refine yr 3 ⟨[E1, E2, (4, vF), (5, vF), (6, vN), (7, vN), (8, vF)], [], H⟩ ?_
 refine o_eq2 (congrArg (fun q0 => (⟨[E1, (8, vb q0)], [], H⟩ : St)) (show false = ((decide (p0 ≥ 6)) && (decide (p0 ≤ 17))) by simp [h1])) ?_
 exact ye
 rcases if_inv hF with ⟨h2, hF⟩ | ⟨h2, hF⟩
 refine yT h2 S5 ?_
 refine ysg ⟨[(2, vi 5)], [], H⟩ ?_
 refine w_ret ?_
 obtain e0 := some1_inv hF
 subst e0
 exact yp (vi 5)
 refine yF h2 S4 ?_
 refine w_skip ?_
 refine ysg S6 ?_
 refine w_block ?_
 refine ysg ⟨[E3, (10, vb (p0 == 1))], [], H⟩ ?_
 rcases if_inv hF with ⟨h3, hF⟩ | ⟨h3, hF⟩
 refine yT h3 S5 ?_
 refine ysg ⟨[(2, vi 0)], [], H⟩ ?_
 refine w_ret ?_
 obtain e0 := some1_inv hF
 subst e0
 exact yp (vi 0)
 refine yF h3 S6 ?_
 refine w_seq ?_
 refine ysg S7 ?_
 refine w_join (α := (Bool)) (fun x => (⟨[E3, (12, vb x)], [], H⟩ : St)) (fun x => ref02_Shape_j1 p0 x = some ra) ?_ ?_
 rintro j4 hF
 replace hF : ref02_Shape_j1 p0 j4 = some ra := hF
 unfold ref02_Shape_j1 at hF
 rcases if_inv hF with ⟨h5, hF⟩ | ⟨h5, hF⟩
 refine yT h5 S5 ?_
 refine ysg ⟨[(2, vi 1)], [], H⟩ ?_
 refine w_ret ?_
 obtain e0 := some1_inv hF
 subst e0
 exact yp (vi 1)
 refine yF h5 S6 ?_
 refine w_seq ?_
 refine ysg S8 ?_
 refine w_join (α := (Bool)) (fun x => (⟨[E3, (16, vb x)], [], H⟩ : St)) (fun x => ref02_Shape_j2 p0 x = some ra) ?_ ?_
 rintro j6 hF
 replace hF : ref02_Shape_j2 p0 j6 = some ra := hF
 unfold ref02_Shape_j2 at hF
 rcases if_inv hF with ⟨h7, hF⟩ | ⟨h7, hF⟩
 refine yT h7 S5 ?_
 refine ysg ⟨[(2, vi 2)], [], H⟩ ?_
 refine w_ret ?_
 obtain e0 := some1_inv hF
 subst e0
 exact yp (vi 2)
 refine yF h7 S6 ?_
 refine w_seq ?_
 refine ysg S9 ?_
 refine w_join (α := (Bool)) (fun x => (⟨[E3, (20, vb x)], [], H⟩ : St)) (fun x => ref02_Shape_j3 p0 x = some ra) ?_ ?_
 rintro j8 hF
 replace hF : ref02_Shape_j3 p0 j8 = some ra := hF
 unfold ref02_Shape_j3 at hF
 rcases if_inv hF with ⟨h9, hF⟩ | ⟨h9, hF⟩
 refine yT h9 S5 ?_
 refine ysg ⟨[(2, vi 3)], [], H⟩ ?_
 refine w_ret ?_
 obtain e0 := some1_inv hF
 subst e0
 exact yp (vi 3)
 refine yF h9 S6 ?_
 refine w_seq ?_
 refine ysg S10 ?_
 refine w_join (α := (Bool)) (fun x => (⟨[E3, (24, vb x)], [], H⟩ : St)) (fun x => ref02_Shape_j4 p0 x = some ra) ?_ ?_
 rintro j10 hF
 replace hF : ref02_Shape_j4 p0 j10 = some ra := hF
 unfold ref02_Shape_j4 at hF
 rcases if_inv hF with ⟨h11, hF⟩ | ⟨h11, hF⟩
 refine yT h11 S5 ?_
 refine ysg ⟨[(2, vi 4)], [], H⟩ ?_
 refine w_ret ?_
 obtain e0 := some1_inv hF
 subst e0
 exact yp (vi 4)
 refine yF h11 S6 ?_
 refine w_seq ?_
 refine ysg S11 ?_
 refine w_join (α := (Bool)) (fun x => (⟨[E3, (28, vb x)], [], H⟩ : St)) (fun x => ref02_Shape_j5 p0 x = some ra) ?_ ?_
 rintro j12 hF
 replace hF : ref02_Shape_j5 p0 j12 = some ra := hF
 unfold ref02_Shape_j5 at hF
 rcases if_inv hF with ⟨h13, hF⟩ | ⟨h13, hF⟩
 refine yT h13 S5 ?_
 refine ysg ⟨[(2, vi 6)], [], H⟩ ?_
 refine w_ret ?_
 obtain e0 := some1_inv hF
 subst e0
 exact yp (vi 6)
 refine yF h13 S6 ?_
 refine w_seq ?_
 refine ysg S12 ?_
 refine w_join (α := (Bool)) (fun x => (⟨[E3, (35, vb x)], [], H⟩ : St)) (fun x => ref02_Shape_j6 p0 x = some ra) ?_ ?_
 rintro j14 hF
 replace hF : ref02_Shape_j6 p0 j14 = some ra := hF
 unfold ref02_Shape_j6 at hF
 rcases if_inv hF with ⟨h15, hF⟩ | ⟨h15, hF⟩
 refine yT h15 S5 ?_
 refine ysg ⟨[(2, vi 7)], [], H⟩ ?_
 refine w_ret ?_
 obtain e0 := some1_inv hF
 subst e0
 exact yp (vi 7)
 refine yF h15 S6 ?_
 refine ysg ⟨[(38, vb (p0 == 28))], [], H⟩ ?_
 rcases if_inv hF with ⟨h16, hF⟩ | ⟨h16, hF⟩
 refine yT h16 S5 ?_
 refine ysg ⟨[(2, vi 8)], [], H⟩ ?_
 refine w_ret ?_
 obtain e0 := some1_inv hF
 subst e0
 exact yp (vi 8)
 refine yF h16 S5 ?_
 refine ysg ⟨[(2, vi (-1))], [], H⟩ ?_
 refine w_ret ?_
 obtain e0 := some1_inv hF
 subst e0
 exact yp (vi (-1))
 rcases if_inv hF with ⟨h17, hF⟩ | ⟨h17, hF⟩
 refine yT h17 S12 ?_
 refine w_skip ?_
 exact ⟨(p0 == 22), hF, (by kernel_rfl)⟩
 refine yF h17 S6 ?_
 refine yg ⟨[E3, (35, vb (p0 == 23))], [], H⟩ ?_
 exact ⟨(p0 == 23), hF, (by kernel_rfl)⟩
 rcases if_inv hF with ⟨h18, hF⟩ | ⟨h18, hF⟩
 refine yT h18 S11 ?_
 refine w_skip ?_
 exact ⟨(p0 == 24), hF, (by kernel_rfl)⟩
 refine yF h18 S6 ?_
 refine ysg S13 ?_
 refine w_join (α := (Bool)) (fun x => (⟨[E3, (28, vb x)], [], H⟩ : St)) (fun x => ref02_Shape_j7 p0 x = some ra) ?_ ?_
 rintro j19 hF
 replace hF : ref02_Shape_j7 p0 j19 = some ra := hF
 unfold ref02_Shape_j7 at hF
 exact ⟨j19, hF, (by kernel_rfl)⟩
 rcases if_inv hF with ⟨h20, hF⟩ | ⟨h20, hF⟩
 refine yT h20 S13 ?_
 refine w_skip ?_
 exact ⟨(p0 == 25), hF, (by kernel_rfl)⟩
 refine yF h20 S6 ?_
 refine ysg S14 ?_
 refine w_join (α := (Bool)) (fun x => (⟨[E3, (28, vb x)], [], H⟩ : St)) (fun x => ref02_Shape_j8 p0 x = some ra) ?_ ?_
 rintro j21 hF
 replace hF : ref02_Shape_j8 p0 j21 = some ra := hF
 unfold ref02_Shape_j8 at hF
 exact ⟨j21, hF, (by kernel_rfl)⟩
 rcases if_inv hF with ⟨h22, hF⟩ | ⟨h22, hF⟩
 refine yT h22 S14 ?_
 refine w_skip ?_
 exact ⟨(p0 == 27), hF, (by kernel_rfl)⟩
 refine yF h22 S6 ?_
 refine ysg S15 ?_
 refine w_join (α := (Bool)) (fun x => (⟨[E3, (28, vb x)], [], H⟩ : St)) (fun x => ref02_Shape_j9 p0 x = some ra) ?_ ?_
 rintro j23 hF
 replace hF : ref02_Shape_j9 p0 j23 = some ra := hF
 unfold ref02_Shape_j9 at hF
 exact ⟨j23, hF, (by kernel_rfl)⟩
 rcases if_inv hF with ⟨h24, hF⟩ | ⟨h24, hF⟩
 refine yT h24 S15 ?_
 refine w_skip ?_
 exact ⟨(p0 == 29), hF, (by kernel_rfl)⟩
 refine yF h24 S6 ?_
 refine ysg S16 ?_
 refine w_join (α := (Bool)) (fun x => (⟨[E3, (28, vb x)], [], H⟩ : St)) (fun x => ref02_Shape_j10 p0 x = some ra) ?_ ?_
 rintro j25 hF
 replace hF : ref02_Shape_j10 p0 j25 = some ra := hF
 unfold ref02_Shape_j10 at hF
 exact ⟨j25, hF, (by kernel_rfl)⟩
 rcases if_inv hF with ⟨h26, hF⟩ | ⟨h26, hF⟩
 refine yT h26 S16 ?_
 refine w_skip ?_
 exact ⟨(p0 == 31), hF, (by kernel_rfl)⟩
 refine yF h26 S6 ?_
 refine yg ⟨[E3, (28, vb (p0 == 32))], [], H⟩ ?_
 exact ⟨(p0 == 32), hF, (by kernel_rfl)⟩
 rcases if_inv hF with ⟨h27, hF⟩ | ⟨h27, hF⟩
 refine yT h27 S10 ?_
 refine w_skip ?_
 exact ⟨(p0 == 4), hF, (by kernel_rfl)⟩
 refine yF h27 S6 ?_
 refine ysg S17 ?_
 refine w_join (α := (Bool)) (fun x => (⟨[E3, (24, vb x)], [], H⟩ : St)) (fun x => ref02_Shape_j11 p0 x = some ra) ?_ ?_
 rintro j28 hF
 replace hF : ref02_Shape_j11 p0 j28 = some ra := hF
 unfold ref02_Shape_j11 at hF
 exact ⟨j28, hF, (by kernel_rfl)⟩
 rcases if_inv hF with ⟨h29, hF⟩ | ⟨h29, hF⟩
 refine yT h29 S17 ?_
 refine w_skip ?_
 exact ⟨(p0 == 26), hF, (by kernel_rfl)⟩
 refine yF h29 S6 ?_
 refine yg ⟨[E3, (24, vb (p0 == 34))], [], H⟩ ?_
 exact ⟨(p0 == 34), hF, (by kernel_rfl)⟩
 rcases if_inv hF with ⟨h30, hF⟩ | ⟨h30, hF⟩
 refine yT h30 S9 ?_
 refine w_skip ?_
 exact ⟨(p0 == 5), hF, (by kernel_rfl)⟩
 refine yF h30 S6 ?_
 refine ysg S18 ?_
 refine w_join (α := (Bool)) (fun x => (⟨[E3, (20, vb x)], [], H⟩ : St)) (fun x => ref02_Shape_j12 p0 x = some ra) ?_ ?_
 rintro j31 hF
 replace hF : ref02_Shape_j12 p0 j31 = some ra := hF
 unfold ref02_Shape_j12 at hF
 exact ⟨j31, hF, (by kernel_rfl)⟩
 rcases if_inv hF with ⟨h32, hF⟩ | ⟨h32, hF⟩
 refine yT h32 S18 ?_
 refine w_skip ?_
 exact ⟨(p0 == 18), hF, (by kernel_rfl)⟩
 refine yF h32 S6 ?_
 refine yg ⟨[E3, (20, vb (p0 == 19))], [], H⟩ ?_
 exact ⟨(p0 == 19), hF, (by kernel_rfl)⟩
 rcases if_inv hF with ⟨h33, hF⟩ | ⟨h33, hF⟩
 refine yT h33 S8 ?_
 refine w_skip ?_
 exact ⟨(p0 == 3), hF, (by kernel_rfl)⟩
 refine yF h33 S6 ?_
 refine ysg S19 ?_
 refine w_join (α := (Bool)) (fun x => (⟨[E3, (16, vb x)], [], H⟩ : St)) (fun x => ref02_Shape_j13 p0 x = some ra) ?_ ?_
 rintro j34 hF
 replace hF : ref02_Shape_j13 p0 j34 = some ra := hF
 unfold ref02_Shape_j13 at hF
 exact ⟨j34, hF, (by kernel_rfl)⟩
 rcases if_inv hF with ⟨h35, hF⟩ | ⟨h35, hF⟩
 refine yT h35 S19 ?_
 refine w_skip ?_
 exact ⟨(p0 == 30), hF, (by kernel_rfl)⟩
 refine yF h35 S6 ?_
 refine yg ⟨[E3, (16, vb (p0 == 33))], [], H⟩ ?_
 exact ⟨(p0 == 33), hF, (by kernel_rfl)⟩
 rcases if_inv hF with ⟨h36, hF⟩ | ⟨h36, hF⟩
 refine yT h36 S7 ?_
 refine w_skip ?_
 exact ⟨(p0 == 2), hF, (by kernel_rfl)⟩
 refine yF h36 S6 ?_
 refine ysg S20 ?_
 refine w_join (α := (Bool)) (fun x => (⟨[E3, (12, vb x)], [], H⟩ : St)) (fun x => ref02_Shape_j14 p0 x = some ra) ?_ ?_
 rintro j37 hF
 replace hF : ref02_Shape_j14 p0 j37 = some ra := hF
 unfold ref02_Shape_j14 at hF
 exact ⟨j37, hF, (by kernel_rfl)⟩
 rcases if_inv hF with ⟨h38, hF⟩ | ⟨h38, hF⟩
 refine yT h38 S20 ?_
 refine w_skip ?_
 exact ⟨(p0 == 20), hF, (by kernel_rfl)⟩
 refine yF h38 S6 ?_
 refine yg ⟨[E3, (12, vb (p0 == 21))], [], H⟩ ?_
 exact ⟨(p0 == 21), hF, (by kernel_rfl)⟩
noncomputable def ref02_has  (p0 : Int) : Option (Bool × Bool × Bool) :=
  some (((decide (p0 ≥ 1)) && (decide (p0 ≤ 6))), ((decide (p0 ≥ 3)) && (decide (p0 ≤ 5))), (p0 == 5))
theorem ok_ref02_has (H : Heap) {p0 : Int} {ra : Bool} {rb : Bool} {rc : Bool} (hF : ref02_has p0 = some (ra, rb, rc)) : evS X 114 [.one .top (.int .i64 p0)] H = some (.tup [.one .top (.bool ra), .one .top (.bool rb), .one .top (.bool rc)], H) := by
 let E1 : EN := (0, vi p0)
 let E2 : EN := (5, vb ((decide (p0 ≥ 1)) && (decide (p0 ≤ 6))))
 let E3 : EN := (7, vi p0)
 let E4 : EN := (13, vi p0)
 refine yf Try.func114 true ⟨[E1], [], H⟩ ?_
 unfold ref02_has at hF
 refine ysg ⟨[E1], [], H⟩ ?_
 refine yso ⟨[E1, E2], [], H⟩ ?_ ?_
 refine yr 3 ⟨[E1, E3, (8, vb (decide (p0 ≥ 1))), (9, vb (decide (p0 ≥ 1)))], [], H⟩ ?_
 rcases bool_cases (decide (p0 ≥ 1)) with h1 | h1
 refine o_eq (congrArg (fun q => (⟨[E1, E3, (8, vb q), (9, vb q)], [], H⟩ : St)) h1) ?_
 refine yr 4 ⟨[E1, (5, vb (decide (p0 ≤ 6))), E3, (8, vT), (9, vT), (10, vi p0), (11, vb (decide (p0 ≤ 6))), (12, vb (decide (p0 ≤ 6)))], [], H⟩ ?_
 refine o_eq2 (congrArg (fun q0 => (⟨[E1, (5, vb q0)], [], H⟩ : St)) (show (decide (p0 ≤ 6)) = ((decide (p0 ≥ 1)) && (decide (p0 ≤ 6))) by simp [h1])) ?_
 exact ye
 refine o_eq (congrArg (fun q => (⟨[E1, E3, (8, vb q), (9, vb q)], [], H⟩ : St)) h1) ?_
 refine yr 4 ⟨[E1, (5, vF), E3, (8, vF), (9, vF), (10, vN), (11, vN), (12, vF)], [], H⟩ ?_
 refine o_eq2 (congrArg (fun q0 => (⟨[E1, (5, vb q0)], [], H⟩ : St)) (show false = ((decide (p0 ≥ 1)) && (decide (p0 ≤ 6))) by simp [h1])) ?_
 exact ye
 refine yso ⟨[E1, E2, (6, vb ((decide (p0 ≥ 3)) && (decide (p0 ≤ 5))))], [], H⟩ ?_ ?_
 refine yr 3 ⟨[E1, E2, E4, (14, vb (decide (p0 ≥ 3))), (15, vb (decide (p0 ≥ 3)))], [], H⟩ ?_
 rcases bool_cases (decide (p0 ≥ 3)) with h2 | h2
 refine o_eq (congrArg (fun q => (⟨[E1, E2, E4, (14, vb q), (15, vb q)], [], H⟩ : St)) h2) ?_
 refine yr 4 ⟨[E1, E2, (6, vb (decide (p0 ≤ 5))), E4, (14, vT), (15, vT), (16, vi p0), (17, vb (decide (p0 ≤ 5))), (18, vb (decide (p0 ≤ 5)))], [], H⟩ ?_
 refine o_eq2 (congrArg (fun q0 => (⟨[E1, E2, (6, vb q0)], [], H⟩ : St)) (show (decide (p0 ≤ 5)) = ((decide (p0 ≥ 3)) && (decide (p0 ≤ 5))) by simp [h2])) ?_
 exact ye
 refine o_eq (congrArg (fun q => (⟨[E1, E2, E4, (14, vb q), (15, vb q)], [], H⟩ : St)) h2) ?_
 refine yr 4 ⟨[E1, E2, (6, vF), E4, (14, vF), (15, vF), (16, vN), (17, vN), (18, vF)], [], H⟩ ?_
 refine o_eq2 (congrArg (fun q0 => (⟨[E1, E2, (6, vb q0)], [], H⟩ : St)) (show false = ((decide (p0 ≥ 3)) && (decide (p0 ≤ 5))) by simp [h2])) ?_
 exact ye
 refine ysg ⟨[(2, vb ((decide (p0 ≥ 1)) && (decide (p0 ≤ 6)))), (3, vb ((decide (p0 ≥ 3)) && (decide (p0 ≤ 5)))), (4, vb (p0 == 5))], [], H⟩ ?_
 refine w_ret ?_
 obtain ⟨e0, e1, e2⟩ := some3_inv hF
 subst e0
 subst e1
 subst e2
 exact yp (.tup [vb ((decide (p0 ≥ 1)) && (decide (p0 ≤ 6))), vb ((decide (p0 ≥ 3)) && (decide (p0 ≤ 5))), vb (p0 == 5)])
noncomputable def ref01_Power_L1 (p0 : Int) (a1 : Int) (a2 : Int) : Option ((Int × Int) ⊕ ((Int))) :=
  if (decide (a2 < p0)) = true then (some (Sum.inl ((IntKind.wrap .i64 (a1 * 2)), (IntKind.wrap .i64 (a2 + 1)))))
  else (some (Sum.inr a1))
noncomputable def ref01_Power  (p0 : Int) : Option (Int) :=
  bind1 (loopO (fun (x : (Int × Int)) => ref01_Power_L1 p0 x.1 x.2) (1, 0)) (fun b6 =>
  some b6)
theorem ok_ref01_Power (H : Heap) {p0 : Int} {ra : Int} (hF : ref01_Power p0 = some ra) : evS X 134 [.one .top (.int .i64 p0)] H = some (.one .top (.int .i64 ra), H) := by
 let E1 : EN := (0, vi p0)
 refine yf Try.func134 true ⟨[E1], [], H⟩ ?_
 unfold ref01_Power at hF
 refine ysg ⟨[E1], [], H⟩ ?_
 refine ysg ⟨[E1, (3, vi 1)], [], H⟩ ?_
 refine w_seq ?_
 refine ysg ⟨[E1, (3, vi 1), (4, vi 0)], [], H⟩ ?_
 refine w_block ?_
 obtain ⟨r4, hL5, hF⟩ := bind1_inv hF
 refine w_loop (fun (x : (Int × Int)) => (⟨[E1, (3, vi x.1), (4, vi x.2)], [], H⟩ : St)) (fun (y : (Int)) => ((.exit 0, (⟨[(3, vi y)], [], H⟩ : St)) : Ex × St)) hL5 (by kernel_rfl) ?_ ?_
 rintro ⟨a1, a2⟩ o hF
 replace hF : ref01_Power_L1 p0 a1 a2 = some o := hF
 let E2 : EN := (3, vi (IntKind.wrap .i64 (a1 * 2)))
 unfold ref01_Power_L1 at hF
 refine w_seq ?_
 refine ysg ⟨[E1, (3, vi a1), (4, vi a2), (7, vb (decide (a2 < p0)))], [], H⟩ ?_
 rcases if_inv hF with ⟨h3, hF⟩ | ⟨h3, hF⟩
 refine yT h3 ⟨[E1, (3, vi a1), (4, vi a2)], [], H⟩ ?_
 refine w_skip ?_
 refine w_seq ?_
 refine w_block ?_
 refine yg ⟨[E1, E2, (4, vi a2)], [], H⟩ ?_
 refine yg ⟨[E1, E2, (4, vi (IntKind.wrap .i64 (a2 + 1)))], [], H⟩ ?_
 cases hF
 exact ⟨_, rfl, (by kernel_rfl)⟩
 refine yF h3 ⟨[(3, vi a1)], [], H⟩ ?_
 refine w_exit ?_
 cases hF
 exact ⟨_, rfl, (by kernel_rfl)⟩
 obtain ⟨b6, hy⟩ : ∃ y, y = r4 := ⟨_, rfl⟩
 subst hy
 refine w_oe (i := 0) (s := (⟨[(3, vi b6)], [], H⟩ : St)) (by kernel_rfl) ?_
 refine e_here ?_
 refine ysg ⟨[(2, vi b6)], [], H⟩ ?_
 refine w_ret ?_
 obtain e0 := some1_inv hF
 subst e0
 exact yp (vi b6)
noncomputable def ref01_Round_j2 (j2 : Int) : Option (Int) :=
  some (IntKind.wrap .i32 j2)
noncomputable def ref01_Round_j1 (j1 : Int) : Option (Int) :=
  if (decide (j1 ≥ 2147483648)) = true then (ref01_Round_j2 (IntKind.wrap .i64 (j1 - 4294967296)))
  else (ref01_Round_j2 j1)
noncomputable def ref01_Round  (p0 : Int) : Option (Int) :=
  if (decide ((Int.tmod p0 4294967296) < 0)) = true then (ref01_Round_j1 (IntKind.wrap .i64 ((Int.tmod p0 4294967296) + 4294967296)))
  else (ref01_Round_j1 (Int.tmod p0 4294967296))
theorem ok_ref01_Round (H : Heap) {p0 : Int} {ra : Int} (hF : ref01_Round p0 = some ra) : evS X 71 [.one .top (.int .i64 p0)] H = some (.one .top (.int .i32 ra), H) := by
 let E1 : EN := (3, vi (Int.tmod p0 4294967296))
 let S2 : St := ⟨[E1], [], H⟩
 refine yf Try.func71 true ⟨[(0, vi p0)], [], H⟩ ?_
 unfold ref01_Round at hF
 refine ysg ⟨[(0, vi p0)], [], H⟩ ?_
 refine ysg S2 ?_
 refine w_seq ?_
 refine ysg ⟨[E1, (7, vb (decide ((Int.tmod p0 4294967296) < 0)))], [], H⟩ ?_
 refine w_join (α := (Int)) (fun x => (⟨[(3, vi x)], [], H⟩ : St)) (fun x => ref01_Round_j1 x = some ra) ?_ ?_
 rintro j1 hF
 replace hF : ref01_Round_j1 j1 = some ra := hF
 unfold ref01_Round_j1 at hF
 refine w_seq ?_
 refine ysg ⟨[(3, vi j1), (11, vb (decide (j1 ≥ 2147483648)))], [], H⟩ ?_
 refine w_join (α := (Int)) (fun x => (⟨[(3, vi x)], [], H⟩ : St)) (fun x => ref01_Round_j2 x = some ra) ?_ ?_
 rintro j2 hF
 replace hF : ref01_Round_j2 j2 = some ra := hF
 unfold ref01_Round_j2 at hF
 refine ysg ⟨[(2, .one .top (.int .i32 (IntKind.wrap .i32 j2)))], [], H⟩ ?_
 refine w_ret ?_
 obtain e0 := some1_inv hF
 subst e0
 exact yp (.one .top (.int .i32 (IntKind.wrap .i32 j2)))
 rcases if_inv hF with ⟨h3, hF⟩ | ⟨h3, hF⟩
 refine yT h3 ⟨[(3, vi j1)], [], H⟩ ?_
 refine yg ⟨[(3, vi (IntKind.wrap .i64 (j1 - 4294967296)))], [], H⟩ ?_
 exact ⟨(IntKind.wrap .i64 (j1 - 4294967296)), hF, (by kernel_rfl)⟩
 refine yF h3 ⟨[(3, vi j1)], [], H⟩ ?_
 refine w_skip ?_
 exact ⟨j1, hF, (by kernel_rfl)⟩
 rcases if_inv hF with ⟨h4, hF⟩ | ⟨h4, hF⟩
 refine yT h4 S2 ?_
 refine yg ⟨[(3, vi (IntKind.wrap .i64 ((Int.tmod p0 4294967296) + 4294967296)))], [], H⟩ ?_
 exact ⟨(IntKind.wrap .i64 ((Int.tmod p0 4294967296) + 4294967296)), hF, (by kernel_rfl)⟩
 refine yF h4 S2 ?_
 refine w_skip ?_
 exact ⟨(Int.tmod p0 4294967296), hF, (by kernel_rfl)⟩
noncomputable def ref01_Sext_j1 (j6 : Int) : Option (Int) :=
  bind1 (ref01_Round j6) fun r7 =>
  some r7
noncomputable def ref01_Sext  (p0 : Int) (p1 : Int) : Option (Int) :=
  if (decide (p1 < 1)) = true then (some 0)
  else (bind1 (ref01_Power (if 32 < p1 then 32 else p1)) fun r2 =>
  bind1 (remI .i64 (IntKind.wrap .i64 p0) r2) fun v4 =>
  if (decide (v4 ≥ (IntKind.wrap .i64 (Int.tdiv r2 2)))) = true then (ref01_Sext_j1 (IntKind.wrap .i64 (v4 - r2)))
  else (ref01_Sext_j1 v4))
theorem ok_ref01_Sext (H : Heap) {p0 : Int} {p1 : Int} {ra : Int} (hF : ref01_Sext p0 p1 = some ra) : evS X 115 [.one .top (.int .u32 p0), .one .top (.int .i64 p1)] H = some (.one .top (.int .i32 ra), H) := by
 let E1 : EN := (0, vu p0)
 let E2 : EN := (1, vi p1)
 let E4 : EN := (10, vi (if 32 < p1 then 32 else p1))
 let E6 : EN := (12, vu p0)
 let E7 : EN := (13, vi (IntKind.wrap .i64 p0))
 let S12 : St := ⟨[E1, E2], [], H⟩
 let S13 : St := ⟨[E1, E2, (9, vi p1), E4], [], H⟩
 refine yf Try.func115 true S12 ?_
 unfold ref01_Sext at hF
 refine ysg S12 ?_
 refine w_seq ?_
 refine ysg ⟨[E1, E2, (8, vb (decide (p1 < 1)))], [], H⟩ ?_
 rcases if_inv hF with ⟨h1, hF⟩ | ⟨h1, hF⟩
 refine yT h1 ⟨[], [], H⟩ ?_
 refine ysg ⟨[(4, .one .top (.int .i32 0))], [], H⟩ ?_
 refine w_ret ?_
 obtain e0 := some1_inv hF
 subst e0
 exact yp (.one .top (.int .i32 0))
 refine yF h1 S12 ?_
 refine w_skip ?_
 refine w_seq ?_
 obtain ⟨r2, c3, hF⟩ := bind1_inv hF
 let E3 : EN := (5, vi r2)
 let E8 : EN := (14, vi r2)
 let S14 : St := ⟨[E1, E3, E6, E7, E8], [], H⟩
 refine w_regO ⟨[E1, E3], [], H⟩ ?_ ?_
 refine yr 2 S13 ?_
 refine o_one ⟨[E1, E2, (9, vi p1), E4, (11, vi r2)], [], H⟩ (yc (some 11) true false S13 (ok_ref01_Power H c3)) ?_
 refine yr 1 ⟨[E1, E2, E3, (9, vi p1), E4, (11, vi r2)], [], H⟩ ?_
 exact ye
 refine w_seq ?_
 obtain ⟨v4, h5, hF⟩ := bind1_inv hF
 let E5 : EN := (6, vi v4)
 refine w_regO ⟨[E3, E5], [], H⟩ ?_ ?_
 refine yr 3 S14 ?_
 refine o_one ⟨[E1, E3, E6, E7, E8, (15, vi v4)], [], H⟩ (st_binI S14 .i64 h5 (ev_rem (P := X.P) (ty := 3) (x := (.tmp 13)) (y := (.tmp 14)) (m := .top) (m' := .top) (k := .i64) (a := (IntKind.wrap .i64 p0)) (b := r2)) (some 15) (by kernel_rfl) (by kernel_rfl)) ?_
 refine yr 1 ⟨[E1, E3, E5, E6, E7, E8, (15, vi v4)], [], H⟩ ?_
 exact ye
 refine w_seq ?_
 refine ysg ⟨[E3, E5, (19, vb (decide (v4 ≥ (IntKind.wrap .i64 (Int.tdiv r2 2)))))], [], H⟩ ?_
 refine w_join (α := (Int)) (fun x => (⟨[(6, vi x)], [], H⟩ : St)) (fun x => ref01_Sext_j1 x = some ra) ?_ ?_
 rintro j6 hF
 replace hF : ref01_Sext_j1 j6 = some ra := hF
 let E10 : EN := (23, vi j6)
 let S15 : St := ⟨[(6, vi j6), E10], [], H⟩
 unfold ref01_Sext_j1 at hF
 refine w_seq ?_
 obtain ⟨r7, c8, hF⟩ := bind1_inv hF
 let E9 : EN := (4, .one .top (.int .i32 r7))
 let E11 : EN := (24, .one .top (.int .i32 r7))
 refine w_regO ⟨[E9], [], H⟩ ?_ ?_
 refine yr 1 S15 ?_
 refine o_one ⟨[(6, vi j6), E10, E11], [], H⟩ (yc (some 24) true false S15 (ok_ref01_Round H c8)) ?_
 refine yr 1 ⟨[E9, (6, vi j6), E10, E11], [], H⟩ ?_
 exact ye
 refine w_ret ?_
 obtain e0 := some1_inv hF
 subst e0
 exact yp (.one .top (.int .i32 r7))
 rcases if_inv hF with ⟨h9, hF⟩ | ⟨h9, hF⟩
 refine yT h9 ⟨[E3, E5], [], H⟩ ?_
 refine yg ⟨[(6, vi (IntKind.wrap .i64 (v4 - r2)))], [], H⟩ ?_
 exact ⟨(IntKind.wrap .i64 (v4 - r2)), hF, (by kernel_rfl)⟩
 refine yF h9 ⟨[E5], [], H⟩ ?_
 refine w_skip ?_
 exact ⟨v4, hF, (by kernel_rfl)⟩
noncomputable def ref02_Check_j2 (p0 : T_ref02_Instr) (j26 : Int) (j27 : Int) : Option (Int) :=
  if ((decide (p0.Imm_ < j26)) || (decide (p0.Imm_ > j27))) = true then (some 20)
  else (some 0)
noncomputable def ref02_Check_j4 (p0 : T_ref02_Instr) (j32 : Int) (j33 : Int) : Option (Int) :=
  ref02_Check_j2 p0 j32 j33
noncomputable def ref02_Check_j5 (p0 : T_ref02_Instr) (j35 : Int) (j36 : Int) : Option (Int) :=
  ref02_Check_j4 p0 j35 j36
noncomputable def ref02_Check_j3 (p0 : T_ref02_Instr) (r1 : Int) (j31 : Bool) : Option (Int) :=
  if j31 = true then (ref02_Check_j4 p0 0 65535)
  else (if (r1 == 7) = true then (ref02_Check_j5 p0 (-8388608) 8388607)
  else (ref02_Check_j5 p0 0 0))
noncomputable def ref02_Check_j6 (p0 : T_ref02_Instr) (r1 : Int) (j39 : Bool) : Option (Int) :=
  ref02_Check_j3 p0 r1 j39
noncomputable def ref02_Check_j1 (p0 : T_ref02_Instr) (r1 : Int) (j25 : Bool) : Option (Int) :=
  if j25 = true then (ref02_Check_j2 p0 (-32768) 32767)
  else (if (r1 == 2) = true then (ref02_Check_j3 p0 r1 (r1 == 2))
  else (if (r1 == 4) = true then (ref02_Check_j6 p0 r1 (r1 == 4))
  else (ref02_Check_j6 p0 r1 (r1 == 8))))
noncomputable def ref02_Check  (p0 : T_ref02_Instr) : Option (Int) :=
  bind1 (ref02_Shape p0.Op_) fun r1 =>
  if (decide (r1 < 0)) = true then (some 21)
  else (bind3 (ref02_has r1) fun r4 r5 r6 =>
  if ((decide (p0.A_ < 0)) || ((decide (p0.A_ > 15)) || ((decide (p0.B_ < 0)) || ((decide (p0.B_ > 15)) || ((decide (p0.C_ < 0)) || ((decide (p0.C_ > 15)) || (if (!r4) = true then ((p0.A_ != 0) || (if (!r5) = true then ((p0.B_ != 0) || ((!r6) && (p0.C_ != 0))) else ((!r6) && (p0.C_ != 0)))) else (if (!r5) = true then ((p0.B_ != 0) || ((!r6) && (p0.C_ != 0))) else ((!r6) && (p0.C_ != 0)))))))))) = true then (some 20)
  else (if (r1 == 1) = true then (ref02_Check_j1 p0 r1 (r1 == 1))
  else (ref02_Check_j1 p0 r1 (r1 == 3))))
theorem ok_ref02_Check (H : Heap) {p0 : T_ref02_Instr} {ra : Int} (hF : ref02_Check p0 = some ra) : evS X 90 [.agg (m0_ref02_Instr p0)] H = some (.one .top (.int .i64 ra), H) := by
 let E1 : EN := (1, vl 1 0)
 let B2 : EB := (1, (m0_ref02_Instr p0))
 let E4 : EN := (9, vl 1 0)
 let E5 : EN := (10, vi p0.Op_)
 let E11 : EN := (20, vl 1 1)
 let E12 : EN := (21, vi p0.A_)
 let E13 : EN := (47, vT)
 let E14 : EN := (48, vT)
 let E15 : EN := (49, vN)
 let E16 : EN := (50, vN)
 let E17 : EN := (51, vN)
 let E18 : EN := (52, vN)
 let E19 : EN := (53, vN)
 let E20 : EN := (54, vN)
 let E21 : EN := (55, vN)
 let E22 : EN := (56, vT)
 let E23 : EN := (57, vT)
 let E24 : EN := (58, vN)
 let E25 : EN := (59, vN)
 let E26 : EN := (60, vN)
 let E27 : EN := (61, vN)
 let E28 : EN := (62, vN)
 let E29 : EN := (63, vN)
 let E30 : EN := (64, vN)
 let E31 : EN := (65, vT)
 let E32 : EN := (66, vT)
 let E33 : EN := (67, vN)
 let E34 : EN := (68, vN)
 let E35 : EN := (69, vN)
 let E36 : EN := (70, vN)
 let E37 : EN := (71, vN)
 let E38 : EN := (72, vN)
 let E39 : EN := (73, vN)
 let E40 : EN := (74, vT)
 let E41 : EN := (22, vF)
 let E42 : EN := (23, vF)
 let E43 : EN := (24, vl 1 1)
 let E44 : EN := (25, vi p0.A_)
 let E45 : EN := (26, vF)
 let E46 : EN := (27, vF)
 let E47 : EN := (28, vF)
 let E48 : EN := (29, vl 1 2)
 let E49 : EN := (30, vi p0.B_)
 let E50 : EN := (31, vF)
 let E51 : EN := (32, vF)
 let E52 : EN := (33, vF)
 let E53 : EN := (34, vl 1 2)
 let E54 : EN := (35, vi p0.B_)
 let E55 : EN := (36, vF)
 let E56 : EN := (37, vF)
 let E57 : EN := (38, vF)
 let E58 : EN := (39, vl 1 3)
 let E59 : EN := (40, vi p0.C_)
 let E60 : EN := (41, vF)
 let E61 : EN := (42, vF)
 let E62 : EN := (43, vF)
 let E63 : EN := (44, vl 1 3)
 let E64 : EN := (45, vi p0.C_)
 let E65 : EN := (46, vF)
 let E66 : EN := (47, vF)
 let E67 : EN := (48, vF)
 let E69 : EN := (50, vT)
 let E70 : EN := (51, vT)
 let E71 : EN := (52, vl 1 1)
 let E72 : EN := (53, vi p0.A_)
 let E73 : EN := (54, vF)
 let E74 : EN := (55, vF)
 let E75 : EN := (56, vF)
 let E76 : EN := (57, vF)
 let E78 : EN := (59, vT)
 let E79 : EN := (60, vT)
 let E80 : EN := (61, vl 1 2)
 let E81 : EN := (62, vi p0.B_)
 let E82 : EN := (63, vF)
 let E83 : EN := (64, vF)
 let E84 : EN := (65, vF)
 let E85 : EN := (66, vF)
 let E89 : EN := (70, vl 1 3)
 let E90 : EN := (71, vi p0.C_)
 let E91 : EN := (72, vb (p0.C_ != 0))
 let E92 : EN := (73, vb (p0.C_ != 0))
 let E93 : EN := (74, vb (p0.C_ != 0))
 let E94 : EN := (59, vF)
 let E95 : EN := (60, vF)
 let E96 : EN := (50, vF)
 let E97 : EN := (51, vF)
 let E98 : EN := (7, vi 0)
 let E99 : EN := (8, vi 0)
 let E103 : EN := (85, vl 1 4)
 let E104 : EN := (86, vi p0.Imm_)
 let S106 : St := ⟨[E1], [B2], H⟩
 let S108 : St := ⟨[E1, E4, E5], [B2], H⟩
 let S109 : St := ⟨[], [], H⟩
 refine yf Try.func90 true ⟨[(0, .agg (m0_ref02_Instr p0))], [], H⟩ ?_
 unfold ref02_Check at hF
 refine ysg S106 ?_
 refine w_seq ?_
 obtain ⟨r1, c2, hF⟩ := bind1_inv hF
 let E3 : EN := (3, vi r1)
 let E9 : EN := (15, vi r1)
 let E100 : EN := (75, vi r1)
 let S107 : St := ⟨[E1, E3], [B2], H⟩
 let S110 : St := ⟨[E1, E3, E9], [B2], H⟩
 let S111 : St := ⟨[E1, E98, E99, E100], [B2], H⟩
 let S112 : St := ⟨[E1, E98, E99, E100, (76, vb (r1 == 1))], [B2], H⟩
 let S113 : St := ⟨[E1, E98, E99, E100, (79, vb (r1 == 2))], [B2], H⟩
 let S114 : St := ⟨[E1, E98, E99, E100, (79, vb (r1 == 4))], [B2], H⟩
 refine w_regO S107 ?_ ?_
 refine yr 2 S108 ?_
 refine o_one ⟨[E1, E4, E5, (11, vi r1)], [B2], H⟩ (yc (some 11) true false S108 (ok_ref02_Shape H c2)) ?_
 refine yr 1 ⟨[E1, E3, E4, E5, (11, vi r1)], [B2], H⟩ ?_
 exact ye
 refine w_seq ?_
 refine ysg ⟨[E1, E3, (13, vb (decide (r1 < 0)))], [B2], H⟩ ?_
 rcases if_inv hF with ⟨h3, hF⟩ | ⟨h3, hF⟩
 refine yT h3 S109 ?_
 refine ysg ⟨[(2, vi 21)], [], H⟩ ?_
 refine w_ret ?_
 obtain e0 := some1_inv hF
 subst e0
 exact yp (vi 21)
 refine yF h3 S107 ?_
 refine w_skip ?_
 refine w_seq ?_
 obtain ⟨r4, r5, r6, c7, hF⟩ := bind3_inv hF
 let E6 : EN := (4, vb r4)
 let E7 : EN := (5, vb r5)
 let E8 : EN := (6, vb r6)
 let E10 : EN := (16, .tup [vb r4, vb r5, vb r6])
 let E68 : EN := (49, vb r4)
 let E77 : EN := (58, vb r5)
 let E86 : EN := (67, vb r6)
 let E87 : EN := (68, vb (!r6))
 let E88 : EN := (69, vb (!r6))
 refine w_regO ⟨[E1, E3, E6, E7, E8], [B2], H⟩ ?_ ?_
 refine yr 1 S110 ?_
 refine o_one ⟨[E1, E3, E9, E10], [B2], H⟩ (yc (some 16) true false S110 (ok_ref02_has H c7)) ?_
 refine yr 7 ⟨[E1, E3, E6, E7, E8, (14, .tup [vb r4, vb r5, vb r6]), E9, E10, (17, vb r4), (18, vb r5), (19, vb r6)], [B2], H⟩ ?_
 exact ye
 refine w_seq ?_
 refine yso ⟨[E1, E3, (74, vb ((decide (p0.A_ < 0)) || ((decide (p0.A_ > 15)) || ((decide (p0.B_ < 0)) || ((decide (p0.B_ > 15)) || ((decide (p0.C_ < 0)) || ((decide (p0.C_ > 15)) || (if (!r4) = true then ((p0.A_ != 0) || (if (!r5) = true then ((p0.B_ != 0) || ((!r6) && (p0.C_ != 0))) else ((!r6) && (p0.C_ != 0)))) else (if (!r5) = true then ((p0.B_ != 0) || ((!r6) && (p0.C_ != 0))) else ((!r6) && (p0.C_ != 0)))))))))))], [B2], H⟩ ?_ ?_
 refine yr 4 ⟨[E1, E3, E6, E7, E8, E11, E12, (22, vb (decide (p0.A_ < 0))), (23, vb (decide (p0.A_ < 0)))], [B2], H⟩ ?_
 rcases bool_cases (decide (p0.A_ < 0)) with h8 | h8
 refine o_eq (congrArg (fun q => (⟨[E1, E3, E6, E7, E8, E11, E12, (22, vb q), (23, vb q)], [B2], H⟩ : St)) h8) ?_
 refine yr 51 ⟨[E1, E3, E6, E7, E8, E11, E12, (22, vT), (23, vT), (24, vN), (25, vN), (26, vN), (27, vT), (28, vT), (29, vN), (30, vN), (31, vN), (32, vT), (33, vT), (34, vN), (35, vN), (36, vN), (37, vT), (38, vT), (39, vN), (40, vN), (41, vN), (42, vT), (43, vT), (44, vN), (45, vN), (46, vN), E13, E14, E15, E16, E17, E18, E19, E20, E21, E22, E23, E24, E25, E26, E27, E28, E29, E30, E31, E32, E33, E34, E35, E36, E37, E38, E39, E40], [B2], H⟩ ?_
 refine o_eq2 (congrArg (fun q0 => (⟨[E1, E3, (74, vb q0)], [B2], H⟩ : St)) (show true = ((decide (p0.A_ < 0)) || ((decide (p0.A_ > 15)) || ((decide (p0.B_ < 0)) || ((decide (p0.B_ > 15)) || ((decide (p0.C_ < 0)) || ((decide (p0.C_ > 15)) || (if (!r4) = true then ((p0.A_ != 0) || (if (!r5) = true then ((p0.B_ != 0) || ((!r6) && (p0.C_ != 0))) else ((!r6) && (p0.C_ != 0)))) else (if (!r5) = true then ((p0.B_ != 0) || ((!r6) && (p0.C_ != 0))) else ((!r6) && (p0.C_ != 0)))))))))) by simp [h8])) ?_
 exact ye
 refine o_eq (congrArg (fun q => (⟨[E1, E3, E6, E7, E8, E11, E12, (22, vb q), (23, vb q)], [B2], H⟩ : St)) h8) ?_
 refine yr 5 ⟨[E1, E3, E6, E7, E8, E11, E12, E41, E42, E43, E44, (26, vb (decide (p0.A_ > 15))), (27, vb (decide (p0.A_ > 15))), (28, vb (decide (p0.A_ > 15)))], [B2], H⟩ ?_
 rcases bool_cases (decide (p0.A_ > 15)) with h9 | h9
 refine o_eq (congrArg (fun q => (⟨[E1, E3, E6, E7, E8, E11, E12, E41, E42, E43, E44, (26, vb q), (27, vb q), (28, vb q)], [B2], H⟩ : St)) h9) ?_
 refine yr 46 ⟨[E1, E3, E6, E7, E8, E11, E12, E41, E42, E43, E44, (26, vT), (27, vT), (28, vT), (29, vN), (30, vN), (31, vN), (32, vT), (33, vT), (34, vN), (35, vN), (36, vN), (37, vT), (38, vT), (39, vN), (40, vN), (41, vN), (42, vT), (43, vT), (44, vN), (45, vN), (46, vN), E13, E14, E15, E16, E17, E18, E19, E20, E21, E22, E23, E24, E25, E26, E27, E28, E29, E30, E31, E32, E33, E34, E35, E36, E37, E38, E39, E40], [B2], H⟩ ?_
 refine o_eq2 (congrArg (fun q0 => (⟨[E1, E3, (74, vb q0)], [B2], H⟩ : St)) (show true = ((decide (p0.A_ < 0)) || ((decide (p0.A_ > 15)) || ((decide (p0.B_ < 0)) || ((decide (p0.B_ > 15)) || ((decide (p0.C_ < 0)) || ((decide (p0.C_ > 15)) || (if (!r4) = true then ((p0.A_ != 0) || (if (!r5) = true then ((p0.B_ != 0) || ((!r6) && (p0.C_ != 0))) else ((!r6) && (p0.C_ != 0)))) else (if (!r5) = true then ((p0.B_ != 0) || ((!r6) && (p0.C_ != 0))) else ((!r6) && (p0.C_ != 0)))))))))) by simp [h8, h9])) ?_
 exact ye
 refine o_eq (congrArg (fun q => (⟨[E1, E3, E6, E7, E8, E11, E12, E41, E42, E43, E44, (26, vb q), (27, vb q), (28, vb q)], [B2], H⟩ : St)) h9) ?_
 refine yr 5 ⟨[E1, E3, E6, E7, E8, E11, E12, E41, E42, E43, E44, E45, E46, E47, E48, E49, (31, vb (decide (p0.B_ < 0))), (32, vb (decide (p0.B_ < 0))), (33, vb (decide (p0.B_ < 0)))], [B2], H⟩ ?_
 rcases bool_cases (decide (p0.B_ < 0)) with h10 | h10
 refine o_eq (congrArg (fun q => (⟨[E1, E3, E6, E7, E8, E11, E12, E41, E42, E43, E44, E45, E46, E47, E48, E49, (31, vb q), (32, vb q), (33, vb q)], [B2], H⟩ : St)) h10) ?_
 refine yr 41 ⟨[E1, E3, E6, E7, E8, E11, E12, E41, E42, E43, E44, E45, E46, E47, E48, E49, (31, vT), (32, vT), (33, vT), (34, vN), (35, vN), (36, vN), (37, vT), (38, vT), (39, vN), (40, vN), (41, vN), (42, vT), (43, vT), (44, vN), (45, vN), (46, vN), E13, E14, E15, E16, E17, E18, E19, E20, E21, E22, E23, E24, E25, E26, E27, E28, E29, E30, E31, E32, E33, E34, E35, E36, E37, E38, E39, E40], [B2], H⟩ ?_
 refine o_eq2 (congrArg (fun q0 => (⟨[E1, E3, (74, vb q0)], [B2], H⟩ : St)) (show true = ((decide (p0.A_ < 0)) || ((decide (p0.A_ > 15)) || ((decide (p0.B_ < 0)) || ((decide (p0.B_ > 15)) || ((decide (p0.C_ < 0)) || ((decide (p0.C_ > 15)) || (if (!r4) = true then ((p0.A_ != 0) || (if (!r5) = true then ((p0.B_ != 0) || ((!r6) && (p0.C_ != 0))) else ((!r6) && (p0.C_ != 0)))) else (if (!r5) = true then ((p0.B_ != 0) || ((!r6) && (p0.C_ != 0))) else ((!r6) && (p0.C_ != 0)))))))))) by simp [h8, h9, h10])) ?_
 exact ye
 refine o_eq (congrArg (fun q => (⟨[E1, E3, E6, E7, E8, E11, E12, E41, E42, E43, E44, E45, E46, E47, E48, E49, (31, vb q), (32, vb q), (33, vb q)], [B2], H⟩ : St)) h10) ?_
 refine yr 5 ⟨[E1, E3, E6, E7, E8, E11, E12, E41, E42, E43, E44, E45, E46, E47, E48, E49, E50, E51, E52, E53, E54, (36, vb (decide (p0.B_ > 15))), (37, vb (decide (p0.B_ > 15))), (38, vb (decide (p0.B_ > 15)))], [B2], H⟩ ?_
 rcases bool_cases (decide (p0.B_ > 15)) with h11 | h11
 refine o_eq (congrArg (fun q => (⟨[E1, E3, E6, E7, E8, E11, E12, E41, E42, E43, E44, E45, E46, E47, E48, E49, E50, E51, E52, E53, E54, (36, vb q), (37, vb q), (38, vb q)], [B2], H⟩ : St)) h11) ?_
 refine yr 36 ⟨[E1, E3, E6, E7, E8, E11, E12, E41, E42, E43, E44, E45, E46, E47, E48, E49, E50, E51, E52, E53, E54, (36, vT), (37, vT), (38, vT), (39, vN), (40, vN), (41, vN), (42, vT), (43, vT), (44, vN), (45, vN), (46, vN), E13, E14, E15, E16, E17, E18, E19, E20, E21, E22, E23, E24, E25, E26, E27, E28, E29, E30, E31, E32, E33, E34, E35, E36, E37, E38, E39, E40], [B2], H⟩ ?_
 refine o_eq2 (congrArg (fun q0 => (⟨[E1, E3, (74, vb q0)], [B2], H⟩ : St)) (show true = ((decide (p0.A_ < 0)) || ((decide (p0.A_ > 15)) || ((decide (p0.B_ < 0)) || ((decide (p0.B_ > 15)) || ((decide (p0.C_ < 0)) || ((decide (p0.C_ > 15)) || (if (!r4) = true then ((p0.A_ != 0) || (if (!r5) = true then ((p0.B_ != 0) || ((!r6) && (p0.C_ != 0))) else ((!r6) && (p0.C_ != 0)))) else (if (!r5) = true then ((p0.B_ != 0) || ((!r6) && (p0.C_ != 0))) else ((!r6) && (p0.C_ != 0)))))))))) by simp [h8, h9, h10, h11])) ?_
 exact ye
 refine o_eq (congrArg (fun q => (⟨[E1, E3, E6, E7, E8, E11, E12, E41, E42, E43, E44, E45, E46, E47, E48, E49, E50, E51, E52, E53, E54, (36, vb q), (37, vb q), (38, vb q)], [B2], H⟩ : St)) h11) ?_
 refine yr 5 ⟨[E1, E3, E6, E7, E8, E11, E12, E41, E42, E43, E44, E45, E46, E47, E48, E49, E50, E51, E52, E53, E54, E55, E56, E57, E58, E59, (41, vb (decide (p0.C_ < 0))), (42, vb (decide (p0.C_ < 0))), (43, vb (decide (p0.C_ < 0)))], [B2], H⟩ ?_
 rcases bool_cases (decide (p0.C_ < 0)) with h12 | h12
 refine o_eq (congrArg (fun q => (⟨[E1, E3, E6, E7, E8, E11, E12, E41, E42, E43, E44, E45, E46, E47, E48, E49, E50, E51, E52, E53, E54, E55, E56, E57, E58, E59, (41, vb q), (42, vb q), (43, vb q)], [B2], H⟩ : St)) h12) ?_
 refine yr 31 ⟨[E1, E3, E6, E7, E8, E11, E12, E41, E42, E43, E44, E45, E46, E47, E48, E49, E50, E51, E52, E53, E54, E55, E56, E57, E58, E59, (41, vT), (42, vT), (43, vT), (44, vN), (45, vN), (46, vN), E13, E14, E15, E16, E17, E18, E19, E20, E21, E22, E23, E24, E25, E26, E27, E28, E29, E30, E31, E32, E33, E34, E35, E36, E37, E38, E39, E40], [B2], H⟩ ?_
 refine o_eq2 (congrArg (fun q0 => (⟨[E1, E3, (74, vb q0)], [B2], H⟩ : St)) (show true = ((decide (p0.A_ < 0)) || ((decide (p0.A_ > 15)) || ((decide (p0.B_ < 0)) || ((decide (p0.B_ > 15)) || ((decide (p0.C_ < 0)) || ((decide (p0.C_ > 15)) || (if (!r4) = true then ((p0.A_ != 0) || (if (!r5) = true then ((p0.B_ != 0) || ((!r6) && (p0.C_ != 0))) else ((!r6) && (p0.C_ != 0)))) else (if (!r5) = true then ((p0.B_ != 0) || ((!r6) && (p0.C_ != 0))) else ((!r6) && (p0.C_ != 0)))))))))) by simp [h8, h9, h10, h11, h12])) ?_
 exact ye
 refine o_eq (congrArg (fun q => (⟨[E1, E3, E6, E7, E8, E11, E12, E41, E42, E43, E44, E45, E46, E47, E48, E49, E50, E51, E52, E53, E54, E55, E56, E57, E58, E59, (41, vb q), (42, vb q), (43, vb q)], [B2], H⟩ : St)) h12) ?_
 refine yr 5 ⟨[E1, E3, E6, E7, E8, E11, E12, E41, E42, E43, E44, E45, E46, E47, E48, E49, E50, E51, E52, E53, E54, E55, E56, E57, E58, E59, E60, E61, E62, E63, E64, (46, vb (decide (p0.C_ > 15))), (47, vb (decide (p0.C_ > 15))), (48, vb (decide (p0.C_ > 15)))], [B2], H⟩ ?_
 rcases bool_cases (decide (p0.C_ > 15)) with h13 | h13
 refine o_eq (congrArg (fun q => (⟨[E1, E3, E6, E7, E8, E11, E12, E41, E42, E43, E44, E45, E46, E47, E48, E49, E50, E51, E52, E53, E54, E55, E56, E57, E58, E59, E60, E61, E62, E63, E64, (46, vb q), (47, vb q), (48, vb q)], [B2], H⟩ : St)) h13) ?_
 refine yr 26 ⟨[E1, E3, E6, E7, E8, E11, E12, E41, E42, E43, E44, E45, E46, E47, E48, E49, E50, E51, E52, E53, E54, E55, E56, E57, E58, E59, E60, E61, E62, E63, E64, (46, vT), E13, E14, E15, E16, E17, E18, E19, E20, E21, E22, E23, E24, E25, E26, E27, E28, E29, E30, E31, E32, E33, E34, E35, E36, E37, E38, E39, E40], [B2], H⟩ ?_
 refine o_eq2 (congrArg (fun q0 => (⟨[E1, E3, (74, vb q0)], [B2], H⟩ : St)) (show true = ((decide (p0.A_ < 0)) || ((decide (p0.A_ > 15)) || ((decide (p0.B_ < 0)) || ((decide (p0.B_ > 15)) || ((decide (p0.C_ < 0)) || ((decide (p0.C_ > 15)) || (if (!r4) = true then ((p0.A_ != 0) || (if (!r5) = true then ((p0.B_ != 0) || ((!r6) && (p0.C_ != 0))) else ((!r6) && (p0.C_ != 0)))) else (if (!r5) = true then ((p0.B_ != 0) || ((!r6) && (p0.C_ != 0))) else ((!r6) && (p0.C_ != 0)))))))))) by simp [h8, h9, h10, h11, h12, h13])) ?_
 exact ye
 refine o_eq (congrArg (fun q => (⟨[E1, E3, E6, E7, E8, E11, E12, E41, E42, E43, E44, E45, E46, E47, E48, E49, E50, E51, E52, E53, E54, E55, E56, E57, E58, E59, E60, E61, E62, E63, E64, (46, vb q), (47, vb q), (48, vb q)], [B2], H⟩ : St)) h13) ?_
 refine yr 3 ⟨[E1, E3, E6, E7, E8, E11, E12, E41, E42, E43, E44, E45, E46, E47, E48, E49, E50, E51, E52, E53, E54, E55, E56, E57, E58, E59, E60, E61, E62, E63, E64, E65, E66, E67, E68, (50, vb (!r4)), (51, vb (!r4))], [B2], H⟩ ?_
 rcases bool_cases (!r4) with h14 | h14
 refine o_eq (congrArg (fun q => (⟨[E1, E3, E6, E7, E8, E11, E12, E41, E42, E43, E44, E45, E46, E47, E48, E49, E50, E51, E52, E53, E54, E55, E56, E57, E58, E59, E60, E61, E62, E63, E64, E65, E66, E67, E68, (50, vb q), (51, vb q)], [B2], H⟩ : St)) h14) ?_
 refine yr 6 ⟨[E1, E3, E6, E7, E8, E11, E12, E41, E42, E43, E44, E45, E46, E47, E48, E49, E50, E51, E52, E53, E54, E55, E56, E57, E58, E59, E60, E61, E62, E63, E64, E65, E66, E67, E68, E69, E70, E71, E72, (54, vb (p0.A_ != 0)), (55, vb (p0.A_ != 0)), (56, vb (p0.A_ != 0)), (57, vb (p0.A_ != 0))], [B2], H⟩ ?_
 rcases bool_cases (p0.A_ != 0) with h15 | h15
 refine o_eq (congrArg (fun q => (⟨[E1, E3, E6, E7, E8, E11, E12, E41, E42, E43, E44, E45, E46, E47, E48, E49, E50, E51, E52, E53, E54, E55, E56, E57, E58, E59, E60, E61, E62, E63, E64, E65, E66, E67, E68, E69, E70, E71, E72, (54, vb q), (55, vb q), (56, vb q), (57, vb q)], [B2], H⟩ : St)) h15) ?_
 refine yr 17 ⟨[E1, E3, E6, E7, E8, E11, E12, E41, E42, E43, E44, E45, E46, E47, E48, E49, E50, E51, E52, E53, E54, E55, E56, E57, E58, E59, E60, E61, E62, E63, E64, E65, E66, E67, E68, E69, E70, E71, E72, (54, vT), (55, vT), E22, E23, E24, E25, E26, E27, E28, E29, E30, E31, E32, E33, E34, E35, E36, E37, E38, E39, E40], [B2], H⟩ ?_
 refine o_eq2 (congrArg (fun q0 => (⟨[E1, E3, (74, vb q0)], [B2], H⟩ : St)) (show true = ((decide (p0.A_ < 0)) || ((decide (p0.A_ > 15)) || ((decide (p0.B_ < 0)) || ((decide (p0.B_ > 15)) || ((decide (p0.C_ < 0)) || ((decide (p0.C_ > 15)) || (if (!r4) = true then ((p0.A_ != 0) || (if (!r5) = true then ((p0.B_ != 0) || ((!r6) && (p0.C_ != 0))) else ((!r6) && (p0.C_ != 0)))) else (if (!r5) = true then ((p0.B_ != 0) || ((!r6) && (p0.C_ != 0))) else ((!r6) && (p0.C_ != 0)))))))))) by simp [h8, h9, h10, h11, h12, h13, h14, h15])) ?_
 exact ye
 refine o_eq (congrArg (fun q => (⟨[E1, E3, E6, E7, E8, E11, E12, E41, E42, E43, E44, E45, E46, E47, E48, E49, E50, E51, E52, E53, E54, E55, E56, E57, E58, E59, E60, E61, E62, E63, E64, E65, E66, E67, E68, E69, E70, E71, E72, (54, vb q), (55, vb q), (56, vb q), (57, vb q)], [B2], H⟩ : St)) h15) ?_
 refine yr 3 ⟨[E1, E3, E6, E7, E8, E11, E12, E41, E42, E43, E44, E45, E46, E47, E48, E49, E50, E51, E52, E53, E54, E55, E56, E57, E58, E59, E60, E61, E62, E63, E64, E65, E66, E67, E68, E69, E70, E71, E72, E73, E74, E75, E76, E77, (59, vb (!r5)), (60, vb (!r5))], [B2], H⟩ ?_
 rcases bool_cases (!r5) with h16 | h16
 refine o_eq (congrArg (fun q => (⟨[E1, E3, E6, E7, E8, E11, E12, E41, E42, E43, E44, E45, E46, E47, E48, E49, E50, E51, E52, E53, E54, E55, E56, E57, E58, E59, E60, E61, E62, E63, E64, E65, E66, E67, E68, E69, E70, E71, E72, E73, E74, E75, E76, E77, (59, vb q), (60, vb q)], [B2], H⟩ : St)) h16) ?_
 refine yr 6 ⟨[E1, E3, E6, E7, E8, E11, E12, E41, E42, E43, E44, E45, E46, E47, E48, E49, E50, E51, E52, E53, E54, E55, E56, E57, E58, E59, E60, E61, E62, E63, E64, E65, E66, E67, E68, E69, E70, E71, E72, E73, E74, E75, E76, E77, E78, E79, E80, E81, (63, vb (p0.B_ != 0)), (64, vb (p0.B_ != 0)), (65, vb (p0.B_ != 0)), (66, vb (p0.B_ != 0))], [B2], H⟩ ?_
 rcases bool_cases (p0.B_ != 0) with h17 | h17
 refine o_eq (congrArg (fun q => (⟨[E1, E3, E6, E7, E8, E11, E12, E41, E42, E43, E44, E45, E46, E47, E48, E49, E50, E51, E52, E53, E54, E55, E56, E57, E58, E59, E60, E61, E62, E63, E64, E65, E66, E67, E68, E69, E70, E71, E72, E73, E74, E75, E76, E77, E78, E79, E80, E81, (63, vb q), (64, vb q), (65, vb q), (66, vb q)], [B2], H⟩ : St)) h17) ?_
 refine yr 8 ⟨[E1, E3, E6, E7, E8, E11, E12, E41, E42, E43, E44, E45, E46, E47, E48, E49, E50, E51, E52, E53, E54, E55, E56, E57, E58, E59, E60, E61, E62, E63, E64, E65, E66, E67, E68, E69, E70, E71, E72, E73, E74, E75, E76, E77, E78, E79, E80, E81, (63, vT), (64, vT), E31, E32, E33, E34, E35, E36, E37, E38, E39, E40], [B2], H⟩ ?_
 refine o_eq2 (congrArg (fun q0 => (⟨[E1, E3, (74, vb q0)], [B2], H⟩ : St)) (show true = ((decide (p0.A_ < 0)) || ((decide (p0.A_ > 15)) || ((decide (p0.B_ < 0)) || ((decide (p0.B_ > 15)) || ((decide (p0.C_ < 0)) || ((decide (p0.C_ > 15)) || (if (!r4) = true then ((p0.A_ != 0) || (if (!r5) = true then ((p0.B_ != 0) || ((!r6) && (p0.C_ != 0))) else ((!r6) && (p0.C_ != 0)))) else (if (!r5) = true then ((p0.B_ != 0) || ((!r6) && (p0.C_ != 0))) else ((!r6) && (p0.C_ != 0)))))))))) by simp [h8, h9, h10, h11, h12, h13, h14, h15, h16, h17])) ?_
 exact ye
 refine o_eq (congrArg (fun q => (⟨[E1, E3, E6, E7, E8, E11, E12, E41, E42, E43, E44, E45, E46, E47, E48, E49, E50, E51, E52, E53, E54, E55, E56, E57, E58, E59, E60, E61, E62, E63, E64, E65, E66, E67, E68, E69, E70, E71, E72, E73, E74, E75, E76, E77, E78, E79, E80, E81, (63, vb q), (64, vb q), (65, vb q), (66, vb q)], [B2], H⟩ : St)) h17) ?_
 refine yr 3 ⟨[E1, E3, E6, E7, E8, E11, E12, E41, E42, E43, E44, E45, E46, E47, E48, E49, E50, E51, E52, E53, E54, E55, E56, E57, E58, E59, E60, E61, E62, E63, E64, E65, E66, E67, E68, E69, E70, E71, E72, E73, E74, E75, E76, E77, E78, E79, E80, E81, E82, E83, E84, E85, E86, E87, E88], [B2], H⟩ ?_
 rcases bool_cases (!r6) with h18 | h18
 refine o_eq (congrArg (fun q => (⟨[E1, E3, E6, E7, E8, E11, E12, E41, E42, E43, E44, E45, E46, E47, E48, E49, E50, E51, E52, E53, E54, E55, E56, E57, E58, E59, E60, E61, E62, E63, E64, E65, E66, E67, E68, E69, E70, E71, E72, E73, E74, E75, E76, E77, E78, E79, E80, E81, E82, E83, E84, E85, E86, (68, vb q), (69, vb q)], [B2], H⟩ : St)) h18) ?_
 refine yr 5 ⟨[E1, E3, E6, E7, E8, E11, E12, E41, E42, E43, E44, E45, E46, E47, E48, E49, E50, E51, E52, E53, E54, E55, E56, E57, E58, E59, E60, E61, E62, E63, E64, E65, E66, E67, E68, E69, E70, E71, E72, E73, E74, E75, E76, E77, E78, E79, E80, E81, E82, E83, E84, E85, E86, (68, vT), (69, vT), E89, E90, E91, E92, E93], [B2], H⟩ ?_
 refine o_eq2 (congrArg (fun q0 => (⟨[E1, E3, (74, vb q0)], [B2], H⟩ : St)) (show (p0.C_ != 0) = ((decide (p0.A_ < 0)) || ((decide (p0.A_ > 15)) || ((decide (p0.B_ < 0)) || ((decide (p0.B_ > 15)) || ((decide (p0.C_ < 0)) || ((decide (p0.C_ > 15)) || (if (!r4) = true then ((p0.A_ != 0) || (if (!r5) = true then ((p0.B_ != 0) || ((!r6) && (p0.C_ != 0))) else ((!r6) && (p0.C_ != 0)))) else (if (!r5) = true then ((p0.B_ != 0) || ((!r6) && (p0.C_ != 0))) else ((!r6) && (p0.C_ != 0)))))))))) by simp [h8, h9, h10, h11, h12, h13, h14, h15, h16, h17, h18])) ?_
 exact ye
 refine o_eq (congrArg (fun q => (⟨[E1, E3, E6, E7, E8, E11, E12, E41, E42, E43, E44, E45, E46, E47, E48, E49, E50, E51, E52, E53, E54, E55, E56, E57, E58, E59, E60, E61, E62, E63, E64, E65, E66, E67, E68, E69, E70, E71, E72, E73, E74, E75, E76, E77, E78, E79, E80, E81, E82, E83, E84, E85, E86, (68, vb q), (69, vb q)], [B2], H⟩ : St)) h18) ?_
 refine yr 5 ⟨[E1, E3, E6, E7, E8, E11, E12, E41, E42, E43, E44, E45, E46, E47, E48, E49, E50, E51, E52, E53, E54, E55, E56, E57, E58, E59, E60, E61, E62, E63, E64, E65, E66, E67, E68, E69, E70, E71, E72, E73, E74, E75, E76, E77, E78, E79, E80, E81, E82, E83, E84, E85, E86, (68, vF), (69, vF), E36, E37, E38, (73, vF), (74, vF)], [B2], H⟩ ?_
 refine o_eq2 (congrArg (fun q0 => (⟨[E1, E3, (74, vb q0)], [B2], H⟩ : St)) (show false = ((decide (p0.A_ < 0)) || ((decide (p0.A_ > 15)) || ((decide (p0.B_ < 0)) || ((decide (p0.B_ > 15)) || ((decide (p0.C_ < 0)) || ((decide (p0.C_ > 15)) || (if (!r4) = true then ((p0.A_ != 0) || (if (!r5) = true then ((p0.B_ != 0) || ((!r6) && (p0.C_ != 0))) else ((!r6) && (p0.C_ != 0)))) else (if (!r5) = true then ((p0.B_ != 0) || ((!r6) && (p0.C_ != 0))) else ((!r6) && (p0.C_ != 0)))))))))) by simp [h8, h9, h10, h11, h12, h13, h14, h15, h16, h17, h18])) ?_
 exact ye
 refine o_eq (congrArg (fun q => (⟨[E1, E3, E6, E7, E8, E11, E12, E41, E42, E43, E44, E45, E46, E47, E48, E49, E50, E51, E52, E53, E54, E55, E56, E57, E58, E59, E60, E61, E62, E63, E64, E65, E66, E67, E68, E69, E70, E71, E72, E73, E74, E75, E76, E77, (59, vb q), (60, vb q)], [B2], H⟩ : St)) h16) ?_
 refine yr 9 ⟨[E1, E3, E6, E7, E8, E11, E12, E41, E42, E43, E44, E45, E46, E47, E48, E49, E50, E51, E52, E53, E54, E55, E56, E57, E58, E59, E60, E61, E62, E63, E64, E65, E66, E67, E68, E69, E70, E71, E72, E73, E74, E75, E76, E77, E94, E95, E27, E28, E29, E83, E84, E85, E86, E87, E88], [B2], H⟩ ?_
 rcases bool_cases (!r6) with h19 | h19
 refine o_eq (congrArg (fun q => (⟨[E1, E3, E6, E7, E8, E11, E12, E41, E42, E43, E44, E45, E46, E47, E48, E49, E50, E51, E52, E53, E54, E55, E56, E57, E58, E59, E60, E61, E62, E63, E64, E65, E66, E67, E68, E69, E70, E71, E72, E73, E74, E75, E76, E77, E94, E95, E27, E28, E29, E83, E84, E85, E86, (68, vb q), (69, vb q)], [B2], H⟩ : St)) h19) ?_
 refine yr 5 ⟨[E1, E3, E6, E7, E8, E11, E12, E41, E42, E43, E44, E45, E46, E47, E48, E49, E50, E51, E52, E53, E54, E55, E56, E57, E58, E59, E60, E61, E62, E63, E64, E65, E66, E67, E68, E69, E70, E71, E72, E73, E74, E75, E76, E77, E94, E95, E27, E28, E29, E83, E84, E85, E86, (68, vT), (69, vT), E89, E90, E91, E92, E93], [B2], H⟩ ?_
 refine o_eq2 (congrArg (fun q0 => (⟨[E1, E3, (74, vb q0)], [B2], H⟩ : St)) (show (p0.C_ != 0) = ((decide (p0.A_ < 0)) || ((decide (p0.A_ > 15)) || ((decide (p0.B_ < 0)) || ((decide (p0.B_ > 15)) || ((decide (p0.C_ < 0)) || ((decide (p0.C_ > 15)) || (if (!r4) = true then ((p0.A_ != 0) || (if (!r5) = true then ((p0.B_ != 0) || ((!r6) && (p0.C_ != 0))) else ((!r6) && (p0.C_ != 0)))) else (if (!r5) = true then ((p0.B_ != 0) || ((!r6) && (p0.C_ != 0))) else ((!r6) && (p0.C_ != 0)))))))))) by simp [h8, h9, h10, h11, h12, h13, h14, h15, h16, h19])) ?_
 exact ye
 refine o_eq (congrArg (fun q => (⟨[E1, E3, E6, E7, E8, E11, E12, E41, E42, E43, E44, E45, E46, E47, E48, E49, E50, E51, E52, E53, E54, E55, E56, E57, E58, E59, E60, E61, E62, E63, E64, E65, E66, E67, E68, E69, E70, E71, E72, E73, E74, E75, E76, E77, E94, E95, E27, E28, E29, E83, E84, E85, E86, (68, vb q), (69, vb q)], [B2], H⟩ : St)) h19) ?_
 refine yr 5 ⟨[E1, E3, E6, E7, E8, E11, E12, E41, E42, E43, E44, E45, E46, E47, E48, E49, E50, E51, E52, E53, E54, E55, E56, E57, E58, E59, E60, E61, E62, E63, E64, E65, E66, E67, E68, E69, E70, E71, E72, E73, E74, E75, E76, E77, E94, E95, E27, E28, E29, E83, E84, E85, E86, (68, vF), (69, vF), E36, E37, E38, (73, vF), (74, vF)], [B2], H⟩ ?_
 refine o_eq2 (congrArg (fun q0 => (⟨[E1, E3, (74, vb q0)], [B2], H⟩ : St)) (show false = ((decide (p0.A_ < 0)) || ((decide (p0.A_ > 15)) || ((decide (p0.B_ < 0)) || ((decide (p0.B_ > 15)) || ((decide (p0.C_ < 0)) || ((decide (p0.C_ > 15)) || (if (!r4) = true then ((p0.A_ != 0) || (if (!r5) = true then ((p0.B_ != 0) || ((!r6) && (p0.C_ != 0))) else ((!r6) && (p0.C_ != 0)))) else (if (!r5) = true then ((p0.B_ != 0) || ((!r6) && (p0.C_ != 0))) else ((!r6) && (p0.C_ != 0)))))))))) by simp [h8, h9, h10, h11, h12, h13, h14, h15, h16, h19])) ?_
 exact ye
 refine o_eq (congrArg (fun q => (⟨[E1, E3, E6, E7, E8, E11, E12, E41, E42, E43, E44, E45, E46, E47, E48, E49, E50, E51, E52, E53, E54, E55, E56, E57, E58, E59, E60, E61, E62, E63, E64, E65, E66, E67, E68, (50, vb q), (51, vb q)], [B2], H⟩ : St)) h14) ?_
 refine yr 9 ⟨[E1, E3, E6, E7, E8, E11, E12, E41, E42, E43, E44, E45, E46, E47, E48, E49, E50, E51, E52, E53, E54, E55, E56, E57, E58, E59, E60, E61, E62, E63, E64, E65, E66, E67, E68, E96, E97, E18, E19, E20, E74, E75, E76, E77, (59, vb (!r5)), (60, vb (!r5))], [B2], H⟩ ?_
 rcases bool_cases (!r5) with h20 | h20
 refine o_eq (congrArg (fun q => (⟨[E1, E3, E6, E7, E8, E11, E12, E41, E42, E43, E44, E45, E46, E47, E48, E49, E50, E51, E52, E53, E54, E55, E56, E57, E58, E59, E60, E61, E62, E63, E64, E65, E66, E67, E68, E96, E97, E18, E19, E20, E74, E75, E76, E77, (59, vb q), (60, vb q)], [B2], H⟩ : St)) h20) ?_
 refine yr 6 ⟨[E1, E3, E6, E7, E8, E11, E12, E41, E42, E43, E44, E45, E46, E47, E48, E49, E50, E51, E52, E53, E54, E55, E56, E57, E58, E59, E60, E61, E62, E63, E64, E65, E66, E67, E68, E96, E97, E18, E19, E20, E74, E75, E76, E77, E78, E79, E80, E81, (63, vb (p0.B_ != 0)), (64, vb (p0.B_ != 0)), (65, vb (p0.B_ != 0)), (66, vb (p0.B_ != 0))], [B2], H⟩ ?_
 rcases bool_cases (p0.B_ != 0) with h21 | h21
 refine o_eq (congrArg (fun q => (⟨[E1, E3, E6, E7, E8, E11, E12, E41, E42, E43, E44, E45, E46, E47, E48, E49, E50, E51, E52, E53, E54, E55, E56, E57, E58, E59, E60, E61, E62, E63, E64, E65, E66, E67, E68, E96, E97, E18, E19, E20, E74, E75, E76, E77, E78, E79, E80, E81, (63, vb q), (64, vb q), (65, vb q), (66, vb q)], [B2], H⟩ : St)) h21) ?_
 refine yr 8 ⟨[E1, E3, E6, E7, E8, E11, E12, E41, E42, E43, E44, E45, E46, E47, E48, E49, E50, E51, E52, E53, E54, E55, E56, E57, E58, E59, E60, E61, E62, E63, E64, E65, E66, E67, E68, E96, E97, E18, E19, E20, E74, E75, E76, E77, E78, E79, E80, E81, (63, vT), (64, vT), E31, E32, E33, E34, E35, E36, E37, E38, E39, E40], [B2], H⟩ ?_
 refine o_eq2 (congrArg (fun q0 => (⟨[E1, E3, (74, vb q0)], [B2], H⟩ : St)) (show true = ((decide (p0.A_ < 0)) || ((decide (p0.A_ > 15)) || ((decide (p0.B_ < 0)) || ((decide (p0.B_ > 15)) || ((decide (p0.C_ < 0)) || ((decide (p0.C_ > 15)) || (if (!r4) = true then ((p0.A_ != 0) || (if (!r5) = true then ((p0.B_ != 0) || ((!r6) && (p0.C_ != 0))) else ((!r6) && (p0.C_ != 0)))) else (if (!r5) = true then ((p0.B_ != 0) || ((!r6) && (p0.C_ != 0))) else ((!r6) && (p0.C_ != 0)))))))))) by simp [h8, h9, h10, h11, h12, h13, h14, h20, h21])) ?_
 exact ye
 refine o_eq (congrArg (fun q => (⟨[E1, E3, E6, E7, E8, E11, E12, E41, E42, E43, E44, E45, E46, E47, E48, E49, E50, E51, E52, E53, E54, E55, E56, E57, E58, E59, E60, E61, E62, E63, E64, E65, E66, E67, E68, E96, E97, E18, E19, E20, E74, E75, E76, E77, E78, E79, E80, E81, (63, vb q), (64, vb q), (65, vb q), (66, vb q)], [B2], H⟩ : St)) h21) ?_
 refine yr 3 ⟨[E1, E3, E6, E7, E8, E11, E12, E41, E42, E43, E44, E45, E46, E47, E48, E49, E50, E51, E52, E53, E54, E55, E56, E57, E58, E59, E60, E61, E62, E63, E64, E65, E66, E67, E68, E96, E97, E18, E19, E20, E74, E75, E76, E77, E78, E79, E80, E81, E82, E83, E84, E85, E86, E87, E88], [B2], H⟩ ?_
 rcases bool_cases (!r6) with h22 | h22
 refine o_eq (congrArg (fun q => (⟨[E1, E3, E6, E7, E8, E11, E12, E41, E42, E43, E44, E45, E46, E47, E48, E49, E50, E51, E52, E53, E54, E55, E56, E57, E58, E59, E60, E61, E62, E63, E64, E65, E66, E67, E68, E96, E97, E18, E19, E20, E74, E75, E76, E77, E78, E79, E80, E81, E82, E83, E84, E85, E86, (68, vb q), (69, vb q)], [B2], H⟩ : St)) h22) ?_
 refine yr 5 ⟨[E1, E3, E6, E7, E8, E11, E12, E41, E42, E43, E44, E45, E46, E47, E48, E49, E50, E51, E52, E53, E54, E55, E56, E57, E58, E59, E60, E61, E62, E63, E64, E65, E66, E67, E68, E96, E97, E18, E19, E20, E74, E75, E76, E77, E78, E79, E80, E81, E82, E83, E84, E85, E86, (68, vT), (69, vT), E89, E90, E91, E92, E93], [B2], H⟩ ?_
 refine o_eq2 (congrArg (fun q0 => (⟨[E1, E3, (74, vb q0)], [B2], H⟩ : St)) (show (p0.C_ != 0) = ((decide (p0.A_ < 0)) || ((decide (p0.A_ > 15)) || ((decide (p0.B_ < 0)) || ((decide (p0.B_ > 15)) || ((decide (p0.C_ < 0)) || ((decide (p0.C_ > 15)) || (if (!r4) = true then ((p0.A_ != 0) || (if (!r5) = true then ((p0.B_ != 0) || ((!r6) && (p0.C_ != 0))) else ((!r6) && (p0.C_ != 0)))) else (if (!r5) = true then ((p0.B_ != 0) || ((!r6) && (p0.C_ != 0))) else ((!r6) && (p0.C_ != 0)))))))))) by simp [h8, h9, h10, h11, h12, h13, h14, h20, h21, h22])) ?_
 exact ye
 refine o_eq (congrArg (fun q => (⟨[E1, E3, E6, E7, E8, E11, E12, E41, E42, E43, E44, E45, E46, E47, E48, E49, E50, E51, E52, E53, E54, E55, E56, E57, E58, E59, E60, E61, E62, E63, E64, E65, E66, E67, E68, E96, E97, E18, E19, E20, E74, E75, E76, E77, E78, E79, E80, E81, E82, E83, E84, E85, E86, (68, vb q), (69, vb q)], [B2], H⟩ : St)) h22) ?_
 refine yr 5 ⟨[E1, E3, E6, E7, E8, E11, E12, E41, E42, E43, E44, E45, E46, E47, E48, E49, E50, E51, E52, E53, E54, E55, E56, E57, E58, E59, E60, E61, E62, E63, E64, E65, E66, E67, E68, E96, E97, E18, E19, E20, E74, E75, E76, E77, E78, E79, E80, E81, E82, E83, E84, E85, E86, (68, vF), (69, vF), E36, E37, E38, (73, vF), (74, vF)], [B2], H⟩ ?_
 refine o_eq2 (congrArg (fun q0 => (⟨[E1, E3, (74, vb q0)], [B2], H⟩ : St)) (show false = ((decide (p0.A_ < 0)) || ((decide (p0.A_ > 15)) || ((decide (p0.B_ < 0)) || ((decide (p0.B_ > 15)) || ((decide (p0.C_ < 0)) || ((decide (p0.C_ > 15)) || (if (!r4) = true then ((p0.A_ != 0) || (if (!r5) = true then ((p0.B_ != 0) || ((!r6) && (p0.C_ != 0))) else ((!r6) && (p0.C_ != 0)))) else (if (!r5) = true then ((p0.B_ != 0) || ((!r6) && (p0.C_ != 0))) else ((!r6) && (p0.C_ != 0)))))))))) by simp [h8, h9, h10, h11, h12, h13, h14, h20, h21, h22])) ?_
 exact ye
 refine o_eq (congrArg (fun q => (⟨[E1, E3, E6, E7, E8, E11, E12, E41, E42, E43, E44, E45, E46, E47, E48, E49, E50, E51, E52, E53, E54, E55, E56, E57, E58, E59, E60, E61, E62, E63, E64, E65, E66, E67, E68, E96, E97, E18, E19, E20, E74, E75, E76, E77, (59, vb q), (60, vb q)], [B2], H⟩ : St)) h20) ?_
 refine yr 9 ⟨[E1, E3, E6, E7, E8, E11, E12, E41, E42, E43, E44, E45, E46, E47, E48, E49, E50, E51, E52, E53, E54, E55, E56, E57, E58, E59, E60, E61, E62, E63, E64, E65, E66, E67, E68, E96, E97, E18, E19, E20, E74, E75, E76, E77, E94, E95, E27, E28, E29, E83, E84, E85, E86, E87, E88], [B2], H⟩ ?_
 rcases bool_cases (!r6) with h23 | h23
 refine o_eq (congrArg (fun q => (⟨[E1, E3, E6, E7, E8, E11, E12, E41, E42, E43, E44, E45, E46, E47, E48, E49, E50, E51, E52, E53, E54, E55, E56, E57, E58, E59, E60, E61, E62, E63, E64, E65, E66, E67, E68, E96, E97, E18, E19, E20, E74, E75, E76, E77, E94, E95, E27, E28, E29, E83, E84, E85, E86, (68, vb q), (69, vb q)], [B2], H⟩ : St)) h23) ?_
 refine yr 5 ⟨[E1, E3, E6, E7, E8, E11, E12, E41, E42, E43, E44, E45, E46, E47, E48, E49, E50, E51, E52, E53, E54, E55, E56, E57, E58, E59, E60, E61, E62, E63, E64, E65, E66, E67, E68, E96, E97, E18, E19, E20, E74, E75, E76, E77, E94, E95, E27, E28, E29, E83, E84, E85, E86, (68, vT), (69, vT), E89, E90, E91, E92, E93], [B2], H⟩ ?_
 refine o_eq2 (congrArg (fun q0 => (⟨[E1, E3, (74, vb q0)], [B2], H⟩ : St)) (show (p0.C_ != 0) = ((decide (p0.A_ < 0)) || ((decide (p0.A_ > 15)) || ((decide (p0.B_ < 0)) || ((decide (p0.B_ > 15)) || ((decide (p0.C_ < 0)) || ((decide (p0.C_ > 15)) || (if (!r4) = true then ((p0.A_ != 0) || (if (!r5) = true then ((p0.B_ != 0) || ((!r6) && (p0.C_ != 0))) else ((!r6) && (p0.C_ != 0)))) else (if (!r5) = true then ((p0.B_ != 0) || ((!r6) && (p0.C_ != 0))) else ((!r6) && (p0.C_ != 0)))))))))) by simp [h8, h9, h10, h11, h12, h13, h14, h20, h23])) ?_
 exact ye
 refine o_eq (congrArg (fun q => (⟨[E1, E3, E6, E7, E8, E11, E12, E41, E42, E43, E44, E45, E46, E47, E48, E49, E50, E51, E52, E53, E54, E55, E56, E57, E58, E59, E60, E61, E62, E63, E64, E65, E66, E67, E68, E96, E97, E18, E19, E20, E74, E75, E76, E77, E94, E95, E27, E28, E29, E83, E84, E85, E86, (68, vb q), (69, vb q)], [B2], H⟩ : St)) h23) ?_
 refine yr 5 ⟨[E1, E3, E6, E7, E8, E11, E12, E41, E42, E43, E44, E45, E46, E47, E48, E49, E50, E51, E52, E53, E54, E55, E56, E57, E58, E59, E60, E61, E62, E63, E64, E65, E66, E67, E68, E96, E97, E18, E19, E20, E74, E75, E76, E77, E94, E95, E27, E28, E29, E83, E84, E85, E86, (68, vF), (69, vF), E36, E37, E38, (73, vF), (74, vF)], [B2], H⟩ ?_
 refine o_eq2 (congrArg (fun q0 => (⟨[E1, E3, (74, vb q0)], [B2], H⟩ : St)) (show false = ((decide (p0.A_ < 0)) || ((decide (p0.A_ > 15)) || ((decide (p0.B_ < 0)) || ((decide (p0.B_ > 15)) || ((decide (p0.C_ < 0)) || ((decide (p0.C_ > 15)) || (if (!r4) = true then ((p0.A_ != 0) || (if (!r5) = true then ((p0.B_ != 0) || ((!r6) && (p0.C_ != 0))) else ((!r6) && (p0.C_ != 0)))) else (if (!r5) = true then ((p0.B_ != 0) || ((!r6) && (p0.C_ != 0))) else ((!r6) && (p0.C_ != 0)))))))))) by simp [h8, h9, h10, h11, h12, h13, h14, h20, h23])) ?_
 exact ye
 rcases if_inv hF with ⟨h24, hF⟩ | ⟨h24, hF⟩
 refine yT h24 S109 ?_
 refine ysg ⟨[(2, vi 20)], [], H⟩ ?_
 refine w_ret ?_
 obtain e0 := some1_inv hF
 subst e0
 exact yp (vi 20)
 refine yF h24 S107 ?_
 refine w_skip ?_
 refine ysg ⟨[E1, E3, E98, E99], [B2], H⟩ ?_
 refine w_seq ?_
 refine ysg S111 ?_
 refine w_block ?_
 refine w_seq ?_
 refine ysg S112 ?_
 refine w_join (α := (Bool)) (fun x => (⟨[E1, E98, E99, E100, (76, vb x)], [B2], H⟩ : St)) (fun x => ref02_Check_j1 p0 r1 x = some ra) ?_ ?_
 rintro j25 hF
 replace hF : ref02_Check_j1 p0 r1 j25 = some ra := hF
 unfold ref02_Check_j1 at hF
 refine w_join (α := (Int × Int)) (fun x => (⟨[E1, (7, vi x.1), (8, vi x.2)], [B2], H⟩ : St)) (fun x => ref02_Check_j2 p0 x.1 x.2 = some ra) ?_ ?_
 rintro ⟨j26, j27⟩ hF
 replace hF : ref02_Check_j2 p0 j26 j27 = some ra := hF
 let E101 : EN := (7, vi j26)
 let E102 : EN := (8, vi j27)
 let E105 : EN := (87, vi j26)
 unfold ref02_Check_j2 at hF
 refine w_seq ?_
 refine yso ⟨[(94, vb ((decide (p0.Imm_ < j26)) || (decide (p0.Imm_ > j27))))], [], H⟩ ?_ ?_
 refine yr 5 ⟨[E1, E101, E102, E103, E104, E105, (88, vb (decide (p0.Imm_ < j26))), (89, vb (decide (p0.Imm_ < j26)))], [B2], H⟩ ?_
 rcases bool_cases (decide (p0.Imm_ < j26)) with h28 | h28
 refine o_eq (congrArg (fun q => (⟨[E1, E101, E102, E103, E104, E105, (88, vb q), (89, vb q)], [B2], H⟩ : St)) h28) ?_
 refine yr 5 ⟨[E1, E101, E102, E103, E104, E105, (88, vT), (89, vT), (90, vN), (91, vN), (92, vN), (93, vN), (94, vT)], [B2], H⟩ ?_
 refine o_eq2 (congrArg (fun q0 => (⟨[(94, vb q0)], [], H⟩ : St)) (show true = ((decide (p0.Imm_ < j26)) || (decide (p0.Imm_ > j27))) by simp [h28])) ?_
 exact ye
 refine o_eq (congrArg (fun q => (⟨[E1, E101, E102, E103, E104, E105, (88, vb q), (89, vb q)], [B2], H⟩ : St)) h28) ?_
 refine yr 5 ⟨[E1, E101, E102, E103, E104, E105, (88, vF), (89, vF), (90, vl 1 4), (91, vi p0.Imm_), (92, vi j27), (93, vb (decide (p0.Imm_ > j27))), (94, vb (decide (p0.Imm_ > j27)))], [B2], H⟩ ?_
 refine o_eq2 (congrArg (fun q0 => (⟨[(94, vb q0)], [], H⟩ : St)) (show (decide (p0.Imm_ > j27)) = ((decide (p0.Imm_ < j26)) || (decide (p0.Imm_ > j27))) by simp [h28])) ?_
 exact ye
 rcases if_inv hF with ⟨h29, hF⟩ | ⟨h29, hF⟩
 refine yT h29 S109 ?_
 refine ysg ⟨[(2, vi 20)], [], H⟩ ?_
 refine w_ret ?_
 obtain e0 := some1_inv hF
 subst e0
 exact yp (vi 20)
 refine yF h29 S109 ?_
 refine w_skip ?_
 refine ysg ⟨[(2, vi 0)], [], H⟩ ?_
 refine w_ret ?_
 obtain e0 := some1_inv hF
 subst e0
 exact yp (vi 0)
 rcases if_inv hF with ⟨h30, hF⟩ | ⟨h30, hF⟩
 refine yT h30 S106 ?_
 refine yg ⟨[E1, (7, vi (-32768)), (8, vi 32767)], [B2], H⟩ ?_
 exact ⟨(-32768, 32767), hF, (by kernel_rfl)⟩
 refine yF h30 S111 ?_
 refine w_seq ?_
 refine ysg S113 ?_
 refine w_join (α := (Bool)) (fun x => (⟨[E1, E98, E99, E100, (79, vb x)], [B2], H⟩ : St)) (fun x => ref02_Check_j3 p0 r1 x = some ra) ?_ ?_
 rintro j31 hF
 replace hF : ref02_Check_j3 p0 r1 j31 = some ra := hF
 unfold ref02_Check_j3 at hF
 refine w_join (α := (Int × Int)) (fun x => (⟨[E1, (7, vi x.1), (8, vi x.2)], [B2], H⟩ : St)) (fun x => ref02_Check_j4 p0 x.1 x.2 = some ra) ?_ ?_
 rintro ⟨j32, j33⟩ hF
 replace hF : ref02_Check_j4 p0 j32 j33 = some ra := hF
 unfold ref02_Check_j4 at hF
 exact ⟨(j32, j33), hF, (by kernel_rfl)⟩
 rcases if_inv hF with ⟨h34, hF⟩ | ⟨h34, hF⟩
 refine yT h34 ⟨[E1, E98], [B2], H⟩ ?_
 refine yg ⟨[E1, E98, (8, vi 65535)], [B2], H⟩ ?_
 exact ⟨(0, 65535), hF, (by kernel_rfl)⟩
 refine yF h34 S111 ?_
 refine ysg ⟨[E1, E98, E99, (83, vb (r1 == 7))], [B2], H⟩ ?_
 refine w_join (α := (Int × Int)) (fun x => (⟨[E1, (7, vi x.1), (8, vi x.2)], [B2], H⟩ : St)) (fun x => ref02_Check_j5 p0 x.1 x.2 = some ra) ?_ ?_
 rintro ⟨j35, j36⟩ hF
 replace hF : ref02_Check_j5 p0 j35 j36 = some ra := hF
 unfold ref02_Check_j5 at hF
 exact ⟨(j35, j36), hF, (by kernel_rfl)⟩
 rcases if_inv hF with ⟨h37, hF⟩ | ⟨h37, hF⟩
 refine yT h37 S106 ?_
 refine yg ⟨[E1, (7, vi (-8388608)), (8, vi 8388607)], [B2], H⟩ ?_
 exact ⟨(-8388608, 8388607), hF, (by kernel_rfl)⟩
 refine yF h37 ⟨[E1, E98, E99], [B2], H⟩ ?_
 refine w_skip ?_
 exact ⟨(0, 0), hF, (by kernel_rfl)⟩
 rcases if_inv hF with ⟨h38, hF⟩ | ⟨h38, hF⟩
 refine yT h38 S113 ?_
 refine w_skip ?_
 exact ⟨(r1 == 2), hF, (by kernel_rfl)⟩
 refine yF h38 S111 ?_
 refine ysg S114 ?_
 refine w_join (α := (Bool)) (fun x => (⟨[E1, E98, E99, E100, (79, vb x)], [B2], H⟩ : St)) (fun x => ref02_Check_j6 p0 r1 x = some ra) ?_ ?_
 rintro j39 hF
 replace hF : ref02_Check_j6 p0 r1 j39 = some ra := hF
 unfold ref02_Check_j6 at hF
 exact ⟨j39, hF, (by kernel_rfl)⟩
 rcases if_inv hF with ⟨h40, hF⟩ | ⟨h40, hF⟩
 refine yT h40 S114 ?_
 refine w_skip ?_
 exact ⟨(r1 == 4), hF, (by kernel_rfl)⟩
 refine yF h40 S111 ?_
 refine yg ⟨[E1, E98, E99, E100, (79, vb (r1 == 8))], [B2], H⟩ ?_
 exact ⟨(r1 == 8), hF, (by kernel_rfl)⟩
 rcases if_inv hF with ⟨h41, hF⟩ | ⟨h41, hF⟩
 refine yT h41 S112 ?_
 refine w_skip ?_
 exact ⟨(r1 == 1), hF, (by kernel_rfl)⟩
 refine yF h41 S111 ?_
 refine yg ⟨[E1, E98, E99, E100, (76, vb (r1 == 3))], [B2], H⟩ ?_
 exact ⟨(r1 == 3), hF, (by kernel_rfl)⟩
noncomputable def ref02_Encode  (p0 : T_ref02_Instr) : Option (Int × Int) :=
  bind1 (ref02_Check p0) fun r1 =>
  if (r1 != 0) = true then (some (0, r1))
  else (bind1 (ref02_Shape p0.Op_) fun r4 =>
  if (r4 == 7) = true then (some ((IntKind.wrap .u32 (IntKind.wrap .i64 ((IntKind.wrap .i64 (p0.Op_ * 16777216)) + (Int.tmod (IntKind.wrap .i64 (p0.Imm_ + 16777216)) 16777216)))), 0))
  else (some ((IntKind.wrap .u32 (IntKind.wrap .i64 ((IntKind.wrap .i64 ((IntKind.wrap .i64 ((IntKind.wrap .i64 ((IntKind.wrap .i64 (p0.Op_ * 16777216)) + (IntKind.wrap .i64 (p0.A_ * 1048576)))) + (IntKind.wrap .i64 (p0.B_ * 65536)))) + (Int.tmod (IntKind.wrap .i64 (p0.Imm_ + 65536)) 65536))) + p0.C_))), 0)))
theorem ok_ref02_Encode (H : Heap) {p0 : T_ref02_Instr} {ra : Int} {rb : Int} (hF : ref02_Encode p0 = some (ra, rb)) : evS X 53 [.agg (m0_ref02_Instr p0)] H = some (.tup [.one .top (.int .u32 ra), .one .top (.int .i64 rb)], H) := by
 let E1 : EN := (1, vl 1 0)
 let B2 : EB := (1, (m0_ref02_Instr p0))
 let E3 : EN := (6, .agg (m0_ref02_Instr p0))
 let E4 : EN := (5, vi (IntKind.wrap .i64 (p0.Op_ * 16777216)))
 let E5 : EN := (14, vl 1 0)
 let E6 : EN := (15, vi p0.Op_)
 let S7 : St := ⟨[E1, E4], [B2], H⟩
 let S8 : St := ⟨[E1, E4, E5, E6], [B2], H⟩
 refine yf Try.func53 true ⟨[(0, .agg (m0_ref02_Instr p0))], [], H⟩ ?_
 unfold ref02_Encode at hF
 refine ysg ⟨[E1], [B2], H⟩ ?_
 refine w_seq ?_
 refine w_seq ?_
 obtain ⟨r1, c2, hF⟩ := bind1_inv hF
 refine w_regO ⟨[E1, (4, vi r1)], [B2], H⟩ ?_ ?_
 refine yr 1 ⟨[E1, E3], [B2], H⟩ ?_
 refine o_one ⟨[E1, E3, (7, vi r1)], [B2], H⟩ (yc (some 7) true false (⟨[E1, E3], [B2], H⟩ : St) (ok_ref02_Check H c2)) ?_
 refine yr 1 ⟨[E1, (4, vi r1), E3, (7, vi r1)], [B2], H⟩ ?_
 exact ye
 refine ysg ⟨[E1, (4, vi r1), (9, vb (r1 != 0))], [B2], H⟩ ?_
 rcases if_inv hF with ⟨h3, hF⟩ | ⟨h3, hF⟩
 refine yT h3 ⟨[(4, vi r1)], [], H⟩ ?_
 refine ysg ⟨[(2, vu 0), (3, vi r1)], [], H⟩ ?_
 refine w_ret ?_
 obtain ⟨e0, e1⟩ := some2_inv hF
 subst e0
 subst e1
 exact yp (.tup [vu 0, vi r1])
 refine yF h3 ⟨[E1], [B2], H⟩ ?_
 refine w_skip ?_
 refine ysg S7 ?_
 refine w_seq ?_
 refine w_seq ?_
 obtain ⟨r4, c5, hF⟩ := bind1_inv hF
 refine w_regO ⟨[E1, E4, (17, vb (r4 == 7))], [B2], H⟩ ?_ ?_
 refine yr 2 S8 ?_
 refine o_one ⟨[E1, E4, E5, E6, (16, vi r4)], [B2], H⟩ (yc (some 16) true false S8 (ok_ref02_Shape H c5)) ?_
 refine yr 1 ⟨[E1, E4, E5, E6, (16, vi r4), (17, vb (r4 == 7))], [B2], H⟩ ?_
 exact ye
 rcases if_inv hF with ⟨h6, hF⟩ | ⟨h6, hF⟩
 refine yT h6 S7 ?_
 refine ysg ⟨[(2, vu (IntKind.wrap .u32 (IntKind.wrap .i64 ((IntKind.wrap .i64 (p0.Op_ * 16777216)) + (Int.tmod (IntKind.wrap .i64 (p0.Imm_ + 16777216)) 16777216))))), (3, vi 0)], [], H⟩ ?_
 refine w_ret ?_
 obtain ⟨e0, e1⟩ := some2_inv hF
 subst e0
 subst e1
 exact yp (.tup [vu (IntKind.wrap .u32 (IntKind.wrap .i64 ((IntKind.wrap .i64 (p0.Op_ * 16777216)) + (Int.tmod (IntKind.wrap .i64 (p0.Imm_ + 16777216)) 16777216)))), vi 0])
 refine yF h6 S7 ?_
 refine w_skip ?_
 refine ysg ⟨[(2, vu (IntKind.wrap .u32 (IntKind.wrap .i64 ((IntKind.wrap .i64 ((IntKind.wrap .i64 ((IntKind.wrap .i64 ((IntKind.wrap .i64 (p0.Op_ * 16777216)) + (IntKind.wrap .i64 (p0.A_ * 1048576)))) + (IntKind.wrap .i64 (p0.B_ * 65536)))) + (Int.tmod (IntKind.wrap .i64 (p0.Imm_ + 65536)) 65536))) + p0.C_)))), (3, vi 0)], [], H⟩ ?_
 refine w_ret ?_
 obtain ⟨e0, e1⟩ := some2_inv hF
 subst e0
 subst e1
 exact yp (.tup [vu (IntKind.wrap .u32 (IntKind.wrap .i64 ((IntKind.wrap .i64 ((IntKind.wrap .i64 ((IntKind.wrap .i64 ((IntKind.wrap .i64 (p0.Op_ * 16777216)) + (IntKind.wrap .i64 (p0.A_ * 1048576)))) + (IntKind.wrap .i64 (p0.B_ * 65536)))) + (Int.tmod (IntKind.wrap .i64 (p0.Imm_ + 65536)) 65536))) + p0.C_))), vi 0])
noncomputable def ref02_Decode_j5 (p0 : Int) (j11 : T_ref02_Instr) : Option (T_ref02_Instr × Int) :=
  bind2 (ref02_Encode j11) fun r12 r13 =>
  if ((r13 != 0) || (r12 != p0)) = true then (some ((T_ref02_Instr.mk 0 0 0 0 0), 21))
  else (some (j11, 0))
noncomputable def ref02_Decode_j7 (p0 : Int) (j21 : T_ref02_Instr) : Option (T_ref02_Instr × Int) :=
  ref02_Decode_j5 p0 j21
noncomputable def ref02_Decode_j8 (p0 : Int) (j23 : T_ref02_Instr) : Option (T_ref02_Instr × Int) :=
  ref02_Decode_j7 p0 j23
noncomputable def ref02_Decode_j6 (p0 : Int) (j9 : T_ref02_Instr) (r1 : Int) (j20 : Bool) : Option (T_ref02_Instr × Int) :=
  if j20 = true then (ref02_Decode_j7 p0 (T_ref02_Instr.mk j9.Op_ j9.A_ j9.B_ j9.C_ (IntKind.wrap .i64 (Int.tmod p0 65536))))
  else (if (r1 == 7) = true then (bind1 (ref01_Sext p0 24) fun r25 =>
  ref02_Decode_j8 p0 (T_ref02_Instr.mk j9.Op_ j9.A_ j9.B_ j9.C_ (IntKind.wrap .i64 r25)))
  else (ref02_Decode_j8 p0 j9))
noncomputable def ref02_Decode_j9 (p0 : Int) (j9 : T_ref02_Instr) (r1 : Int) (j28 : Bool) : Option (T_ref02_Instr × Int) :=
  ref02_Decode_j6 p0 j9 r1 j28
noncomputable def ref02_Decode_j4 (p0 : Int) (j9 : T_ref02_Instr) (r1 : Int) (j10 : Bool) : Option (T_ref02_Instr × Int) :=
  if j10 = true then (bind1 (ref01_Sext p0 16) fun r18 =>
  ref02_Decode_j5 p0 (T_ref02_Instr.mk j9.Op_ j9.A_ j9.B_ j9.C_ (IntKind.wrap .i64 r18)))
  else (if (r1 == 2) = true then (ref02_Decode_j6 p0 j9 r1 (r1 == 2))
  else (if (r1 == 4) = true then (ref02_Decode_j9 p0 j9 r1 (r1 == 4))
  else (ref02_Decode_j9 p0 j9 r1 (r1 == 8))))
noncomputable def ref02_Decode_j3 (r1 : Int) (p0 : Int) (j9 : T_ref02_Instr) : Option (T_ref02_Instr × Int) :=
  if (r1 == 1) = true then (ref02_Decode_j4 p0 j9 r1 (r1 == 1))
  else (ref02_Decode_j4 p0 j9 r1 (r1 == 3))
noncomputable def ref02_Decode_j2 (r5 : Bool) (r1 : Int) (p0 : Int) (j8 : T_ref02_Instr) : Option (T_ref02_Instr × Int) :=
  if r5 = true then (ref02_Decode_j3 r1 p0 (T_ref02_Instr.mk j8.Op_ j8.A_ j8.B_ (IntKind.wrap .i64 (Int.tmod p0 16)) j8.Imm_))
  else (ref02_Decode_j3 r1 p0 j8)
noncomputable def ref02_Decode_j1 (r4 : Bool) (r5 : Bool) (r1 : Int) (p0 : Int) (j7 : T_ref02_Instr) : Option (T_ref02_Instr × Int) :=
  if r4 = true then (ref02_Decode_j2 r5 r1 p0 (T_ref02_Instr.mk j7.Op_ j7.A_ (IntKind.wrap .i64 (Int.tmod (IntKind.wrap .u32 (Int.tdiv p0 65536)) 16)) j7.C_ j7.Imm_))
  else (ref02_Decode_j2 r5 r1 p0 j7)
noncomputable def ref02_Decode  (p0 : Int) : Option (T_ref02_Instr × Int) :=
  bind1 (ref02_Shape (IntKind.wrap .i64 (IntKind.wrap .u32 (Int.tdiv p0 16777216)))) fun r1 =>
  bind3 (ref02_has r1) fun r3 r4 r5 =>
  if r3 = true then (ref02_Decode_j1 r4 r5 r1 p0 (T_ref02_Instr.mk (IntKind.wrap .i64 (IntKind.wrap .u32 (Int.tdiv p0 16777216))) (IntKind.wrap .i64 (Int.tmod (IntKind.wrap .u32 (Int.tdiv p0 1048576)) 16)) 0 0 0))
  else (ref02_Decode_j1 r4 r5 r1 p0 (T_ref02_Instr.mk (IntKind.wrap .i64 (IntKind.wrap .u32 (Int.tdiv p0 16777216))) 0 0 0 0))
theorem ok_ref02_Decode (H : Heap) {p0 : Int} {ra : T_ref02_Instr} {rb : Int} (hF : ref02_Decode p0 = some (ra, rb)) : evS X 97 [.one .top (.int .u32 p0)] H = some (.tup [.agg [(.top, .int .i64 ra.Op_), (.top, .int .i64 ra.A_), (.top, .int .i64 ra.B_), (.top, .int .i64 ra.C_), (.top, .int .i64 ra.Imm_)], .one .top (.int .i64 rb)], H) := by
 let E1 : EN := (0, vu p0)
 let E2 : EN := (2, vl 2 0)
 let B3 : EB := (2, (List.replicate 5 (.top, .int .i64 0)))
 let E4 : EN := (4, vl 4 0)
 let B5 : EB := (4, ([(.top, .int .i64 (IntKind.wrap .i64 (IntKind.wrap .u32 (Int.tdiv p0 16777216))))] ++ List.replicate 4 (.top, .int .i64 0)))
 let E7 : EN := (15, vl 4 0)
 let E8 : EN := (16, vi (IntKind.wrap .i64 (IntKind.wrap .u32 (Int.tdiv p0 16777216))))
 let E24 : EN := (45, vu p0)
 let E27 : EN := (59, vu p0)
 let S29 : St := ⟨[E1, E2, E4, E7, E8], [B3, B5], H⟩
 refine yf Try.func97 true ⟨[E1], [], H⟩ ?_
 unfold ref02_Decode at hF
 refine ysg ⟨[E1, E2], [B3], H⟩ ?_
 refine ysg ⟨[E1, E2, E4], [B3, B5], H⟩ ?_
 refine w_seq ?_
 obtain ⟨r1, c2, hF⟩ := bind1_inv hF
 let E6 : EN := (5, vi r1)
 let E11 : EN := (19, vi r1)
 let E15 : EN := (41, vi r1)
 let S30 : St := ⟨[E1, E2, E4, E6, E11], [B3, B5], H⟩
 refine w_regO ⟨[E1, E2, E4, E6], [B3, B5], H⟩ ?_ ?_
 refine yr 2 S29 ?_
 refine o_one ⟨[E1, E2, E4, E7, E8, (17, vi r1)], [B3, B5], H⟩ (yc (some 17) true false S29 (ok_ref02_Shape H c2)) ?_
 refine yr 1 ⟨[E1, E2, E4, E6, E7, E8, (17, vi r1)], [B3, B5], H⟩ ?_
 exact ye
 refine w_seq ?_
 obtain ⟨r3, r4, r5, c6, hF⟩ := bind3_inv hF
 let E9 : EN := (7, vb r4)
 let E10 : EN := (8, vb r5)
 let E12 : EN := (20, .tup [vb r3, vb r4, vb r5])
 let S41 : St := ⟨[E1, E2, E4, E6, E9, E10], [B3, B5], H⟩
 refine w_regO ⟨[E1, E2, E4, E6, (6, vb r3), E9, E10], [B3, B5], H⟩ ?_ ?_
 refine yr 1 S30 ?_
 refine o_one ⟨[E1, E2, E4, E6, E11, E12], [B3, B5], H⟩ (yc (some 20) true false S30 (ok_ref02_has H c6)) ?_
 refine yr 7 ⟨[E1, E2, E4, E6, (6, vb r3), E9, E10, (18, .tup [vb r3, vb r4, vb r5]), E11, E12, (21, vb r3), (22, vb r4), (23, vb r5)], [B3, B5], H⟩ ?_
 exact ye
 refine w_seq ?_
 refine ysg ⟨[E1, E2, E4, E6, E9, E10, (24, vb r3)], [B3, B5], H⟩ ?_
 refine w_join (α := (T_ref02_Instr)) (fun x => (⟨[E1, E2, E4, E6, E9, E10], [B3, (4, (m0_ref02_Instr x))], H⟩ : St)) (fun x => ref02_Decode_j1 r4 r5 r1 p0 x = some (ra, rb)) ?_ ?_
 rintro j7 hF
 replace hF : ref02_Decode_j1 r4 r5 r1 p0 j7 = some (ra, rb) := hF
 let B13 : EB := (4, (m0_ref02_Instr j7))
 let S40 : St := ⟨[E1, E2, E4, E6, E10], [B3, B13], H⟩
 unfold ref02_Decode_j1 at hF
 refine w_seq ?_
 refine ysg ⟨[E1, E2, E4, E6, E10, (30, vb r4)], [B3, B13], H⟩ ?_
 refine w_join (α := (T_ref02_Instr)) (fun x => (⟨[E1, E2, E4, E6, E10], [B3, (4, (m0_ref02_Instr x))], H⟩ : St)) (fun x => ref02_Decode_j2 r5 r1 p0 x = some (ra, rb)) ?_ ?_
 rintro j8 hF
 replace hF : ref02_Decode_j2 r5 r1 p0 j8 = some (ra, rb) := hF
 let B14 : EB := (4, (m0_ref02_Instr j8))
 let S39 : St := ⟨[E1, E2, E4, E6], [B3, B14], H⟩
 unfold ref02_Decode_j2 at hF
 refine w_seq ?_
 refine ysg ⟨[E1, E2, E4, E6, (36, vb r5)], [B3, B14], H⟩ ?_
 refine w_join (α := (T_ref02_Instr)) (fun x => (⟨[E1, E2, E4, E6], [B3, (4, (m0_ref02_Instr x))], H⟩ : St)) (fun x => ref02_Decode_j3 r1 p0 x = some (ra, rb)) ?_ ?_
 rintro j9 hF
 replace hF : ref02_Decode_j3 r1 p0 j9 = some (ra, rb) := hF
 let B16 : EB := (4, (m0_ref02_Instr j9))
 let S31 : St := ⟨[E1, E2, E4, E15], [B3, B16], H⟩
 let S32 : St := ⟨[E1, E2, E4, E15, (42, vb (r1 == 1))], [B3, B16], H⟩
 let S34 : St := ⟨[E1, E2, E4], [B3, B16], H⟩
 let S35 : St := ⟨[E1, E2, E4, E24], [B3, B16], H⟩
 let S36 : St := ⟨[E1, E2, E4, E15, (49, vb (r1 == 2))], [B3, B16], H⟩
 let S37 : St := ⟨[E1, E2, E4, E27], [B3, B16], H⟩
 let S38 : St := ⟨[E1, E2, E4, E15, (49, vb (r1 == 4))], [B3, B16], H⟩
 unfold ref02_Decode_j3 at hF
 refine w_seq ?_
 refine ysg S31 ?_
 refine w_block ?_
 refine w_seq ?_
 refine ysg S32 ?_
 refine w_join (α := (Bool)) (fun x => (⟨[E1, E2, E4, E15, (42, vb x)], [B3, B16], H⟩ : St)) (fun x => ref02_Decode_j4 p0 j9 r1 x = some (ra, rb)) ?_ ?_
 rintro j10 hF
 replace hF : ref02_Decode_j4 p0 j9 r1 j10 = some (ra, rb) := hF
 unfold ref02_Decode_j4 at hF
 refine w_join (α := (T_ref02_Instr)) (fun x => (⟨[E1, E2, E4], [B3, (4, (m0_ref02_Instr x))], H⟩ : St)) (fun x => ref02_Decode_j5 p0 x = some (ra, rb)) ?_ ?_
 rintro j11 hF
 replace hF : ref02_Decode_j5 p0 j11 = some (ra, rb) := hF
 let B19 : EB := (4, (m0_ref02_Instr j11))
 let E20 : EN := (64, .agg (m0_ref02_Instr j11))
 let S33 : St := ⟨[E1, E2, E4, E20], [B3, B19], H⟩
 unfold ref02_Decode_j5 at hF
 refine w_seq ?_
 obtain ⟨r12, r13, c14, hF⟩ := bind2_inv hF
 let E17 : EN := (9, vu r12)
 let E18 : EN := (10, vi r13)
 let E21 : EN := (65, .tup [vu r12, vi r13])
 let E22 : EN := (68, vi r13)
 refine w_regO ⟨[E1, E2, E4, E17, E18], [B3, B19], H⟩ ?_ ?_
 refine yr 1 S33 ?_
 refine o_one ⟨[E1, E2, E4, E20, E21], [B3, B19], H⟩ (yc (some 65) true false S33 (ok_ref02_Encode H c14)) ?_
 refine yr 5 ⟨[E1, E2, E4, E17, E18, (63, .tup [vu r12, vi r13]), E20, E21, (66, vu r12), (67, vi r13)], [B3, B19], H⟩ ?_
 exact ye
 refine w_seq ?_
 refine yso ⟨[E2, E4, (74, vb ((r13 != 0) || (r12 != p0)))], [B3, B19], H⟩ ?_ ?_
 refine yr 3 ⟨[E1, E2, E4, E17, E18, E22, (69, vb (r13 != 0)), (70, vb (r13 != 0))], [B3, B19], H⟩ ?_
 rcases bool_cases (r13 != 0) with h15 | h15
 refine o_eq (congrArg (fun q => (⟨[E1, E2, E4, E17, E18, E22, (69, vb q), (70, vb q)], [B3, B19], H⟩ : St)) h15) ?_
 refine yr 4 ⟨[E1, E2, E4, E17, E18, E22, (69, vT), (70, vT), (71, vN), (72, vN), (73, vN), (74, vT)], [B3, B19], H⟩ ?_
 refine o_eq2 (congrArg (fun q0 => (⟨[E2, E4, (74, vb q0)], [B3, B19], H⟩ : St)) (show true = ((r13 != 0) || (r12 != p0)) by simp [h15])) ?_
 exact ye
 refine o_eq (congrArg (fun q => (⟨[E1, E2, E4, E17, E18, E22, (69, vb q), (70, vb q)], [B3, B19], H⟩ : St)) h15) ?_
 refine yr 4 ⟨[E1, E2, E4, E17, E18, E22, (69, vF), (70, vF), (71, vu r12), (72, vu p0), (73, vb (r12 != p0)), (74, vb (r12 != p0))], [B3, B19], H⟩ ?_
 refine o_eq2 (congrArg (fun q0 => (⟨[E2, E4, (74, vb q0)], [B3, B19], H⟩ : St)) (show (r12 != p0) = ((r13 != 0) || (r12 != p0)) by simp [h15])) ?_
 exact ye
 rcases if_inv hF with ⟨h16, hF⟩ | ⟨h16, hF⟩
 refine yT h16 ⟨[E2], [B3], H⟩ ?_
 refine ysg ⟨[E2, (3, vi 21)], [B3], H⟩ ?_
 refine w_ret ?_
 obtain ⟨e0, e1⟩ := some2_inv hF
 subst e0
 subst e1
 exact yp (.tup [.agg (List.replicate 5 (.top, .int .i64 0)), vi 21])
 refine yF h16 ⟨[E2, E4], [B3, B19], H⟩ ?_
 refine w_skip ?_
 refine ysg ⟨[E2, (3, vi 0)], [(2, (m0_ref02_Instr j11))], H⟩ ?_
 refine w_ret ?_
 obtain ⟨e0, e1⟩ := some2_inv hF
 subst e0
 subst e1
 exact yp (.tup [.agg (m0_ref02_Instr j11), vi 0])
 rcases if_inv hF with ⟨h17, hF⟩ | ⟨h17, hF⟩
 refine yT h17 S34 ?_
 obtain ⟨r18, c19, hF⟩ := bind1_inv hF
 let B23 : EB := (4, [(.top, .int .i64 j9.Op_), (.top, .int .i64 j9.A_), (.top, .int .i64 j9.B_), (.top, .int .i64 j9.C_), (.top, .int .i64 (IntKind.wrap .i64 r18))])
 let E25 : EN := (46, .one .top (.int .i32 r18))
 refine w_regO ⟨[E1, E2, E4], [B3, B23], H⟩ ?_ ?_
 refine yr 1 S35 ?_
 refine o_one ⟨[E1, E2, E4, E24, E25], [B3, B16], H⟩ (yc (some 46) true false S35 (ok_ref01_Sext H c19)) ?_
 refine yr 3 ⟨[E1, E2, E4, E24, E25, (47, vi (IntKind.wrap .i64 r18)), (48, vl 4 4)], [B3, B23], H⟩ ?_
 exact ye
 exact ⟨(T_ref02_Instr.mk j9.Op_ j9.A_ j9.B_ j9.C_ (IntKind.wrap .i64 r18)), hF, (by kernel_rfl)⟩
 refine yF h17 S31 ?_
 refine w_seq ?_
 refine ysg S36 ?_
 refine w_join (α := (Bool)) (fun x => (⟨[E1, E2, E4, E15, (49, vb x)], [B3, B16], H⟩ : St)) (fun x => ref02_Decode_j6 p0 j9 r1 x = some (ra, rb)) ?_ ?_
 rintro j20 hF
 replace hF : ref02_Decode_j6 p0 j9 r1 j20 = some (ra, rb) := hF
 unfold ref02_Decode_j6 at hF
 refine w_join (α := (T_ref02_Instr)) (fun x => (⟨[E1, E2, E4], [B3, (4, (m0_ref02_Instr x))], H⟩ : St)) (fun x => ref02_Decode_j7 p0 x = some (ra, rb)) ?_ ?_
 rintro j21 hF
 replace hF : ref02_Decode_j7 p0 j21 = some (ra, rb) := hF
 unfold ref02_Decode_j7 at hF
 exact ⟨j21, hF, (by kernel_rfl)⟩
 rcases if_inv hF with ⟨h22, hF⟩ | ⟨h22, hF⟩
 refine yT h22 S34 ?_
 refine yg ⟨[E1, E2, E4], [B3, (4, [(.top, .int .i64 j9.Op_), (.top, .int .i64 j9.A_), (.top, .int .i64 j9.B_), (.top, .int .i64 j9.C_), (.top, .int .i64 (IntKind.wrap .i64 (Int.tmod p0 65536)))])], H⟩ ?_
 exact ⟨(T_ref02_Instr.mk j9.Op_ j9.A_ j9.B_ j9.C_ (IntKind.wrap .i64 (Int.tmod p0 65536))), hF, (by kernel_rfl)⟩
 refine yF h22 S31 ?_
 refine ysg ⟨[E1, E2, E4, (57, vb (r1 == 7))], [B3, B16], H⟩ ?_
 refine w_join (α := (T_ref02_Instr)) (fun x => (⟨[E1, E2, E4], [B3, (4, (m0_ref02_Instr x))], H⟩ : St)) (fun x => ref02_Decode_j8 p0 x = some (ra, rb)) ?_ ?_
 rintro j23 hF
 replace hF : ref02_Decode_j8 p0 j23 = some (ra, rb) := hF
 unfold ref02_Decode_j8 at hF
 exact ⟨j23, hF, (by kernel_rfl)⟩
 rcases if_inv hF with ⟨h24, hF⟩ | ⟨h24, hF⟩
 refine yT h24 S34 ?_
 obtain ⟨r25, c26, hF⟩ := bind1_inv hF
 let B26 : EB := (4, [(.top, .int .i64 j9.Op_), (.top, .int .i64 j9.A_), (.top, .int .i64 j9.B_), (.top, .int .i64 j9.C_), (.top, .int .i64 (IntKind.wrap .i64 r25))])
 let E28 : EN := (60, .one .top (.int .i32 r25))
 refine w_regO ⟨[E1, E2, E4], [B3, B26], H⟩ ?_ ?_
 refine yr 1 S37 ?_
 refine o_one ⟨[E1, E2, E4, E27, E28], [B3, B16], H⟩ (yc (some 60) true false S37 (ok_ref01_Sext H c26)) ?_
 refine yr 3 ⟨[E1, E2, E4, E27, E28, (61, vi (IntKind.wrap .i64 r25)), (62, vl 4 4)], [B3, B26], H⟩ ?_
 exact ye
 exact ⟨(T_ref02_Instr.mk j9.Op_ j9.A_ j9.B_ j9.C_ (IntKind.wrap .i64 r25)), hF, (by kernel_rfl)⟩
 refine yF h24 S34 ?_
 refine w_skip ?_
 exact ⟨j9, hF, (by kernel_rfl)⟩
 rcases if_inv hF with ⟨h27, hF⟩ | ⟨h27, hF⟩
 refine yT h27 S36 ?_
 refine w_skip ?_
 exact ⟨(r1 == 2), hF, (by kernel_rfl)⟩
 refine yF h27 S31 ?_
 refine ysg S38 ?_
 refine w_join (α := (Bool)) (fun x => (⟨[E1, E2, E4, E15, (49, vb x)], [B3, B16], H⟩ : St)) (fun x => ref02_Decode_j9 p0 j9 r1 x = some (ra, rb)) ?_ ?_
 rintro j28 hF
 replace hF : ref02_Decode_j9 p0 j9 r1 j28 = some (ra, rb) := hF
 unfold ref02_Decode_j9 at hF
 exact ⟨j28, hF, (by kernel_rfl)⟩
 rcases if_inv hF with ⟨h29, hF⟩ | ⟨h29, hF⟩
 refine yT h29 S38 ?_
 refine w_skip ?_
 exact ⟨(r1 == 4), hF, (by kernel_rfl)⟩
 refine yF h29 S31 ?_
 refine yg ⟨[E1, E2, E4, E15, (49, vb (r1 == 8))], [B3, B16], H⟩ ?_
 exact ⟨(r1 == 8), hF, (by kernel_rfl)⟩
 rcases if_inv hF with ⟨h30, hF⟩ | ⟨h30, hF⟩
 refine yT h30 S32 ?_
 refine w_skip ?_
 exact ⟨(r1 == 1), hF, (by kernel_rfl)⟩
 refine yF h30 S31 ?_
 refine yg ⟨[E1, E2, E4, E15, (42, vb (r1 == 3))], [B3, B16], H⟩ ?_
 exact ⟨(r1 == 3), hF, (by kernel_rfl)⟩
 rcases if_inv hF with ⟨h31, hF⟩ | ⟨h31, hF⟩
 refine yT h31 S39 ?_
 refine yg ⟨[E1, E2, E4, E6], [B3, (4, [(.top, .int .i64 j8.Op_), (.top, .int .i64 j8.A_), (.top, .int .i64 j8.B_), (.top, .int .i64 (IntKind.wrap .i64 (Int.tmod p0 16))), (.top, .int .i64 j8.Imm_)])], H⟩ ?_
 exact ⟨(T_ref02_Instr.mk j8.Op_ j8.A_ j8.B_ (IntKind.wrap .i64 (Int.tmod p0 16)) j8.Imm_), hF, (by kernel_rfl)⟩
 refine yF h31 S39 ?_
 refine w_skip ?_
 exact ⟨j8, hF, (by kernel_rfl)⟩
 rcases if_inv hF with ⟨h32, hF⟩ | ⟨h32, hF⟩
 refine yT h32 S40 ?_
 refine yg ⟨[E1, E2, E4, E6, E10], [B3, (4, [(.top, .int .i64 j7.Op_), (.top, .int .i64 j7.A_), (.top, .int .i64 (IntKind.wrap .i64 (Int.tmod (IntKind.wrap .u32 (Int.tdiv p0 65536)) 16))), (.top, .int .i64 j7.C_), (.top, .int .i64 j7.Imm_)])], H⟩ ?_
 exact ⟨(T_ref02_Instr.mk j7.Op_ j7.A_ (IntKind.wrap .i64 (Int.tmod (IntKind.wrap .u32 (Int.tdiv p0 65536)) 16)) j7.C_ j7.Imm_), hF, (by kernel_rfl)⟩
 refine yF h32 S40 ?_
 refine w_skip ?_
 exact ⟨j7, hF, (by kernel_rfl)⟩
 rcases if_inv hF with ⟨h33, hF⟩ | ⟨h33, hF⟩
 refine yT h33 S41 ?_
 refine yg ⟨[E1, E2, E4, E6, E9, E10], [B3, (4, [(.top, .int .i64 (IntKind.wrap .i64 (IntKind.wrap .u32 (Int.tdiv p0 16777216)))), (.top, .int .i64 (IntKind.wrap .i64 (Int.tmod (IntKind.wrap .u32 (Int.tdiv p0 1048576)) 16))), (.top, .int .i64 0), (.top, .int .i64 0), (.top, .int .i64 0)])], H⟩ ?_
 exact ⟨(T_ref02_Instr.mk (IntKind.wrap .i64 (IntKind.wrap .u32 (Int.tdiv p0 16777216))) (IntKind.wrap .i64 (Int.tmod (IntKind.wrap .u32 (Int.tdiv p0 1048576)) 16)) 0 0 0), hF, (by kernel_rfl)⟩
 refine yF h33 S41 ?_
 refine w_skip ?_
 exact ⟨(T_ref02_Instr.mk (IntKind.wrap .i64 (IntKind.wrap .u32 (Int.tdiv p0 16777216))) 0 0 0 0), hF, (by kernel_rfl)⟩
noncomputable def ref01_Times  (p0 : Int) (p1 : Int) : Option (Int) :=
  bind1 (ref01_Round (IntKind.wrap .i64 ((IntKind.wrap .i64 p0) * (IntKind.wrap .i64 p1)))) fun r1 =>
  some r1
theorem ok_ref01_Times (H : Heap) {p0 : Int} {p1 : Int} {ra : Int} (hF : ref01_Times p0 p1 = some ra) : evS X 72 [.one .top (.int .i32 p0), .one .top (.int .i32 p1)] H = some (.one .top (.int .i32 ra), H) := by
 let E1 : EN := (0, .one .top (.int .i32 p0))
 let E2 : EN := (1, .one .top (.int .i32 p1))
 let E4 : EN := (5, .one .top (.int .i32 p0))
 let E5 : EN := (6, vi (IntKind.wrap .i64 p0))
 let E6 : EN := (7, .one .top (.int .i32 p1))
 let E7 : EN := (8, vi (IntKind.wrap .i64 p1))
 let E8 : EN := (9, vi (IntKind.wrap .i64 ((IntKind.wrap .i64 p0) * (IntKind.wrap .i64 p1))))
 let S10 : St := ⟨[E1, E2, E4, E5, E6, E7, E8], [], H⟩
 refine yf Try.func72 true ⟨[E1, E2], [], H⟩ ?_
 unfold ref01_Times at hF
 refine ysg ⟨[E1, E2], [], H⟩ ?_
 refine w_seq ?_
 obtain ⟨r1, c2, hF⟩ := bind1_inv hF
 let E3 : EN := (4, .one .top (.int .i32 r1))
 let E9 : EN := (10, .one .top (.int .i32 r1))
 refine w_regO ⟨[E3], [], H⟩ ?_ ?_
 refine yr 5 S10 ?_
 refine o_one ⟨[E1, E2, E4, E5, E6, E7, E8, E9], [], H⟩ (yc (some 10) true false S10 (ok_ref01_Round H c2)) ?_
 refine yr 1 ⟨[E1, E2, E3, E4, E5, E6, E7, E8, E9], [], H⟩ ?_
 exact ye
 refine w_ret ?_
 obtain e0 := some1_inv hF
 subst e0
 exact yp (.one .top (.int .i32 r1))
noncomputable def ref01_Div_j1 (j5 : Int) : Option (Int × Bool) :=
  bind1 (ref01_Round j5) fun r6 =>
  some (r6, true)
noncomputable def ref01_Div  (p0 : Int) (p1 : Int) : Option (Int × Bool) :=
  if (p1 == 0) = true then (some (0, false))
  else (bind1 (quoI .i64 (IntKind.wrap .i64 p0) (IntKind.wrap .i64 p1)) fun v2 =>
  if (((IntKind.wrap .i64 (v2 * (IntKind.wrap .i64 p1))) != (IntKind.wrap .i64 p0)) && ((decide ((IntKind.wrap .i64 p0) < 0)) != (decide ((IntKind.wrap .i64 p1) < 0)))) = true then (ref01_Div_j1 (IntKind.wrap .i64 (v2 - 1)))
  else (ref01_Div_j1 v2))
theorem ok_ref01_Div (H : Heap) {p0 : Int} {p1 : Int} {ra : Int} {rb : Bool} (hF : ref01_Div p0 p1 = some (ra, rb)) : evS X 73 [.one .top (.int .i32 p0), .one .top (.int .i32 p1)] H = some (.tup [.one .top (.int .i32 ra), .one .top (.bool rb)], H) := by
 let E1 : EN := (0, .one .top (.int .i32 p0))
 let E2 : EN := (1, .one .top (.int .i32 p1))
 let E3 : EN := (6, vi (IntKind.wrap .i64 p0))
 let E4 : EN := (7, vi (IntKind.wrap .i64 p1))
 let E6 : EN := (15, vi (IntKind.wrap .i64 p0))
 let E7 : EN := (16, vi (IntKind.wrap .i64 p1))
 let E9 : EN := (19, vi (IntKind.wrap .i64 p1))
 let E11 : EN := (21, vi (IntKind.wrap .i64 p0))
 let S15 : St := ⟨[E1, E2], [], H⟩
 let S16 : St := ⟨[E3, E4, E6, E7], [], H⟩
 refine yf Try.func73 true S15 ?_
 unfold ref01_Div at hF
 refine ysg S15 ?_
 refine w_seq ?_
 refine ysg ⟨[E1, E2, (10, vb (p1 == 0))], [], H⟩ ?_
 rcases if_inv hF with ⟨h1, hF⟩ | ⟨h1, hF⟩
 refine yT h1 ⟨[], [], H⟩ ?_
 refine ysg ⟨[(4, .one .top (.int .i32 0)), (5, vF)], [], H⟩ ?_
 refine w_ret ?_
 obtain ⟨e0, e1⟩ := some2_inv hF
 subst e0
 subst e1
 exact yp (.tup [.one .top (.int .i32 0), vF])
 refine yF h1 S15 ?_
 refine w_skip ?_
 refine ysg ⟨[E3, E4], [], H⟩ ?_
 refine w_seq ?_
 obtain ⟨v2, h3, hF⟩ := bind1_inv hF
 let E5 : EN := (8, vi v2)
 let E8 : EN := (18, vi v2)
 let E10 : EN := (20, vi (IntKind.wrap .i64 (v2 * (IntKind.wrap .i64 p1))))
 refine w_regO ⟨[E3, E4, E5], [], H⟩ ?_ ?_
 refine yr 2 S16 ?_
 refine o_one ⟨[E3, E4, E6, E7, (17, vi v2)], [], H⟩ (st_binI S16 .i64 h3 (ev_quo (P := X.P) (ty := 3) (x := (.tmp 15)) (y := (.tmp 16)) (m := .top) (m' := .top) (k := .i64) (a := (IntKind.wrap .i64 p0)) (b := (IntKind.wrap .i64 p1))) (some 17) (by kernel_rfl) (by kernel_rfl)) ?_
 refine yr 1 ⟨[E3, E4, E5, E6, E7, (17, vi v2)], [], H⟩ ?_
 exact ye
 refine w_seq ?_
 refine yso ⟨[E5, (29, vb (((IntKind.wrap .i64 (v2 * (IntKind.wrap .i64 p1))) != (IntKind.wrap .i64 p0)) && ((decide ((IntKind.wrap .i64 p0) < 0)) != (decide ((IntKind.wrap .i64 p1) < 0)))))], [], H⟩ ?_ ?_
 refine yr 6 ⟨[E3, E4, E5, E8, E9, E10, E11, (22, vb ((IntKind.wrap .i64 (v2 * (IntKind.wrap .i64 p1))) != (IntKind.wrap .i64 p0))), (23, vb ((IntKind.wrap .i64 (v2 * (IntKind.wrap .i64 p1))) != (IntKind.wrap .i64 p0)))], [], H⟩ ?_
 rcases bool_cases ((IntKind.wrap .i64 (v2 * (IntKind.wrap .i64 p1))) != (IntKind.wrap .i64 p0)) with h4 | h4
 refine o_eq (congrArg (fun q => (⟨[E3, E4, E5, E8, E9, E10, E11, (22, vb q), (23, vb q)], [], H⟩ : St)) h4) ?_
 refine yr 6 ⟨[E3, E4, E5, E8, E9, E10, E11, (22, vT), (23, vT), (24, vi (IntKind.wrap .i64 p0)), (25, vb (decide ((IntKind.wrap .i64 p0) < 0))), (26, vi (IntKind.wrap .i64 p1)), (27, vb (decide ((IntKind.wrap .i64 p1) < 0))), (28, vb ((decide ((IntKind.wrap .i64 p0) < 0)) != (decide ((IntKind.wrap .i64 p1) < 0)))), (29, vb ((decide ((IntKind.wrap .i64 p0) < 0)) != (decide ((IntKind.wrap .i64 p1) < 0))))], [], H⟩ ?_
 refine o_eq2 (congrArg (fun q0 => (⟨[E5, (29, vb q0)], [], H⟩ : St)) (show ((decide ((IntKind.wrap .i64 p0) < 0)) != (decide ((IntKind.wrap .i64 p1) < 0))) = (((IntKind.wrap .i64 (v2 * (IntKind.wrap .i64 p1))) != (IntKind.wrap .i64 p0)) && ((decide ((IntKind.wrap .i64 p0) < 0)) != (decide ((IntKind.wrap .i64 p1) < 0)))) by simp [h4])) ?_
 exact ye
 refine o_eq (congrArg (fun q => (⟨[E3, E4, E5, E8, E9, E10, E11, (22, vb q), (23, vb q)], [], H⟩ : St)) h4) ?_
 refine yr 6 ⟨[E3, E4, E5, E8, E9, E10, E11, (22, vF), (23, vF), (24, vN), (25, vN), (26, vN), (27, vN), (28, vN), (29, vF)], [], H⟩ ?_
 refine o_eq2 (congrArg (fun q0 => (⟨[E5, (29, vb q0)], [], H⟩ : St)) (show false = (((IntKind.wrap .i64 (v2 * (IntKind.wrap .i64 p1))) != (IntKind.wrap .i64 p0)) && ((decide ((IntKind.wrap .i64 p0) < 0)) != (decide ((IntKind.wrap .i64 p1) < 0)))) by simp [h4])) ?_
 exact ye
 refine w_join (α := (Int)) (fun x => (⟨[(8, vi x)], [], H⟩ : St)) (fun x => ref01_Div_j1 x = some (ra, rb)) ?_ ?_
 rintro j5 hF
 replace hF : ref01_Div_j1 j5 = some (ra, rb) := hF
 let E13 : EN := (32, vi j5)
 let S17 : St := ⟨[(8, vi j5), E13], [], H⟩
 unfold ref01_Div_j1 at hF
 refine w_seq ?_
 obtain ⟨r6, c7, hF⟩ := bind1_inv hF
 let E12 : EN := (4, .one .top (.int .i32 r6))
 let E14 : EN := (33, .one .top (.int .i32 r6))
 refine w_regO ⟨[E12, (5, vT)], [], H⟩ ?_ ?_
 refine yr 1 S17 ?_
 refine o_one ⟨[(8, vi j5), E13, E14], [], H⟩ (yc (some 33) true false S17 (ok_ref01_Round H c7)) ?_
 refine yr 2 ⟨[E12, (5, vT), (8, vi j5), E13, E14], [], H⟩ ?_
 exact ye
 refine w_ret ?_
 obtain ⟨e0, e1⟩ := some2_inv hF
 subst e0
 subst e1
 exact yp (.tup [.one .top (.int .i32 r6), vT])
 rcases if_inv hF with ⟨h8, hF⟩ | ⟨h8, hF⟩
 refine yT h8 ⟨[E5], [], H⟩ ?_
 refine yg ⟨[(8, vi (IntKind.wrap .i64 (v2 - 1)))], [], H⟩ ?_
 exact ⟨(IntKind.wrap .i64 (v2 - 1)), hF, (by kernel_rfl)⟩
 refine yF h8 ⟨[E5], [], H⟩ ?_
 refine w_skip ?_
 exact ⟨v2, hF, (by kernel_rfl)⟩
noncomputable def ref01_Mod  (p0 : Int) (p1 : Int) : Option (Int × Bool) :=
  bind2 (ref01_Div p0 p1) fun r1 r2 =>
  if (!r2) = true then (some (0, false))
  else (bind1 (ref01_Round (IntKind.wrap .i64 ((IntKind.wrap .i64 p0) - (IntKind.wrap .i64 ((IntKind.wrap .i64 r1) * (IntKind.wrap .i64 p1)))))) fun r5 =>
  some (r5, true))
theorem ok_ref01_Mod (H : Heap) {p0 : Int} {p1 : Int} {ra : Int} {rb : Bool} (hF : ref01_Mod p0 p1 = some (ra, rb)) : evS X 74 [.one .top (.int .i32 p0), .one .top (.int .i32 p1)] H = some (.tup [.one .top (.int .i32 ra), .one .top (.bool rb)], H) := by
 let E1 : EN := (0, .one .top (.int .i32 p0))
 let E2 : EN := (1, .one .top (.int .i32 p1))
 let E4 : EN := (9, .one .top (.int .i32 p0))
 let E5 : EN := (10, .one .top (.int .i32 p1))
 let E8 : EN := (16, .one .top (.int .i32 p0))
 let E9 : EN := (17, vi (IntKind.wrap .i64 p0))
 let E12 : EN := (20, .one .top (.int .i32 p1))
 let E13 : EN := (21, vi (IntKind.wrap .i64 p1))
 let S17 : St := ⟨[E1, E2, E4, E5], [], H⟩
 refine yf Try.func74 true ⟨[E1, E2], [], H⟩ ?_
 unfold ref01_Mod at hF
 refine ysg ⟨[E1, E2], [], H⟩ ?_
 refine w_seq ?_
 obtain ⟨r1, r2, c3, hF⟩ := bind2_inv hF
 let E3 : EN := (6, .one .top (.int .i32 r1))
 let E6 : EN := (11, .tup [.one .top (.int .i32 r1), vb r2])
 let E10 : EN := (18, .one .top (.int .i32 r1))
 let E11 : EN := (19, vi (IntKind.wrap .i64 r1))
 let E14 : EN := (22, vi (IntKind.wrap .i64 ((IntKind.wrap .i64 r1) * (IntKind.wrap .i64 p1))))
 let E15 : EN := (23, vi (IntKind.wrap .i64 ((IntKind.wrap .i64 p0) - (IntKind.wrap .i64 ((IntKind.wrap .i64 r1) * (IntKind.wrap .i64 p1))))))
 let S18 : St := ⟨[E1, E2, E3, E8, E9, E10, E11, E12, E13, E14, E15], [], H⟩
 refine w_regO ⟨[E1, E2, E3, (7, vb r2)], [], H⟩ ?_ ?_
 refine yr 2 S17 ?_
 refine o_one ⟨[E1, E2, E4, E5, E6], [], H⟩ (yc (some 11) true false S17 (ok_ref01_Div H c3)) ?_
 refine yr 5 ⟨[E1, E2, E3, (7, vb r2), (8, .tup [.one .top (.int .i32 r1), vb r2]), E4, E5, E6, (12, .one .top (.int .i32 r1)), (13, vb r2)], [], H⟩ ?_
 exact ye
 refine w_seq ?_
 refine ysg ⟨[E1, E2, E3, (15, vb (!r2))], [], H⟩ ?_
 rcases if_inv hF with ⟨h4, hF⟩ | ⟨h4, hF⟩
 refine yT h4 ⟨[], [], H⟩ ?_
 refine ysg ⟨[(4, .one .top (.int .i32 0)), (5, vF)], [], H⟩ ?_
 refine w_ret ?_
 obtain ⟨e0, e1⟩ := some2_inv hF
 subst e0
 subst e1
 exact yp (.tup [.one .top (.int .i32 0), vF])
 refine yF h4 ⟨[E1, E2, E3], [], H⟩ ?_
 refine w_skip ?_
 refine w_seq ?_
 obtain ⟨r5, c6, hF⟩ := bind1_inv hF
 let E7 : EN := (4, .one .top (.int .i32 r5))
 let E16 : EN := (24, .one .top (.int .i32 r5))
 refine w_regO ⟨[E7, (5, vT)], [], H⟩ ?_ ?_
 refine yr 8 S18 ?_
 refine o_one ⟨[E1, E2, E3, E8, E9, E10, E11, E12, E13, E14, E15, E16], [], H⟩ (yc (some 24) true false S18 (ok_ref01_Round H c6)) ?_
 refine yr 2 ⟨[E1, E2, E7, (5, vT), E3, E8, E9, E10, E11, E12, E13, E14, E15, E16], [], H⟩ ?_
 exact ye
 refine w_ret ?_
 obtain ⟨e0, e1⟩ := some2_inv hF
 subst e0
 subst e1
 exact yp (.tup [.one .top (.int .i32 r5), vT])
noncomputable def ref04_is  (p0 : Bool) : Option (Int) :=
  if p0 = true then (some 1)
  else (some 0)
theorem ok_ref04_is (H : Heap) {p0 : Bool} {ra : Int} (hF : ref04_is p0 = some ra) : evS X 135 [.one .top (.bool p0)] H = some (.one .top (.int .u32 ra), H) := by
 refine yf Try.func135 true ⟨[(0, vb p0)], [], H⟩ ?_
 unfold ref04_is at hF
 refine ysg ⟨[(0, vb p0)], [], H⟩ ?_
 refine w_seq ?_
 refine ysg ⟨[(3, vb p0)], [], H⟩ ?_
 rcases if_inv hF with ⟨h1, hF⟩ | ⟨h1, hF⟩
 refine yT h1 ⟨[], [], H⟩ ?_
 refine ysg ⟨[(2, vu 1)], [], H⟩ ?_
 refine w_ret ?_
 obtain e0 := some1_inv hF
 subst e0
 exact yp (vu 1)
 refine yF h1 ⟨[], [], H⟩ ?_
 refine w_skip ?_
 refine ysg ⟨[(2, vu 0)], [], H⟩ ?_
 refine w_ret ?_
 obtain e0 := some1_inv hF
 subst e0
 exact yp (vu 0)
noncomputable def ref04_reckon  (p0 : Int) (p1 : Int) (p2 : Int) : Option (Int × Bool) :=
  if (p0 == 6) = true then (some ((IntKind.wrap .u32 (p1 + p2)), true))
  else (if (p0 == 7) = true then (some ((IntKind.wrap .u32 (p1 - p2)), true))
  else (if (p0 == 8) = true then (bind1 (ref01_Times (IntKind.wrap .i32 p1) (IntKind.wrap .i32 p2)) fun r4 =>
  some ((IntKind.wrap .u32 r4), true))
  else (if (p0 == 9) = true then (bind2 (ref01_Div (IntKind.wrap .i32 p1) (IntKind.wrap .i32 p2)) fun r7 r8 =>
  some ((IntKind.wrap .u32 r7), r8))
  else (if (p0 == 10) = true then (bind2 (ref01_Mod (IntKind.wrap .i32 p1) (IntKind.wrap .i32 p2)) fun r11 r12 =>
  some ((IntKind.wrap .u32 r11), r12))
  else (if (p0 == 11) = true then (some ((bitsOf .and .u32 p1 p2), true))
  else (if (p0 == 12) = true then (some ((bitsOf .or .u32 p1 p2), true))
  else (if (p0 == 13) = true then (some ((bitsOf .xor .u32 p1 p2), true))
  else (if (p0 == 14) = true then (bind1 (ref04_is (decide ((IntKind.wrap .i32 p1) < (IntKind.wrap .i32 p2)))) fun r18 =>
  some (r18, true))
  else (if (p0 == 15) = true then (bind1 (ref04_is (decide ((IntKind.wrap .i32 p1) ≤ (IntKind.wrap .i32 p2)))) fun r21 =>
  some (r21, true))
  else (if (p0 == 16) = true then (bind1 (ref04_is (p1 == p2)) fun r24 =>
  some (r24, true))
  else (if (p0 == 17) = true then (bind1 (ref04_is (p1 != p2)) fun r27 =>
  some (r27, true))
  else (some (0, true)))))))))))))
theorem ok_ref04_reckon (H : Heap) {p0 : Int} {p1 : Int} {p2 : Int} {ra : Int} {rb : Bool} (hF : ref04_reckon p0 p1 p2 = some (ra, rb)) : evS X 116 [.one .top (.int .i64 p0), .one .top (.int .u32 p1), .one .top (.int .u32 p2)] H = some (.tup [.one .top (.int .u32 ra), .one .top (.bool rb)], H) := by
 let E1 : EN := (1, vu p1)
 let E2 : EN := (2, vu p2)
 let E3 : EN := (8, .one .top (.int .i32 (IntKind.wrap .i32 p1)))
 let E4 : EN := (9, .one .top (.int .i32 (IntKind.wrap .i32 p2)))
 let E5 : EN := (18, vi p0)
 let E6 : EN := (7, vT)
 let E8 : EN := (31, .one .top (.int .i32 (IntKind.wrap .i32 p1)))
 let E9 : EN := (32, .one .top (.int .i32 (IntKind.wrap .i32 p2)))
 let E12 : EN := (38, .one .top (.int .i32 (IntKind.wrap .i32 p1)))
 let E13 : EN := (39, .one .top (.int .i32 (IntKind.wrap .i32 p2)))
 let E16 : EN := (49, .one .top (.int .i32 (IntKind.wrap .i32 p1)))
 let E17 : EN := (50, .one .top (.int .i32 (IntKind.wrap .i32 p2)))
 let E19 : EN := (74, .one .top (.int .i32 (IntKind.wrap .i32 p1)))
 let E20 : EN := (75, .one .top (.int .i32 (IntKind.wrap .i32 p2)))
 let E21 : EN := (76, vb (decide ((IntKind.wrap .i32 p1) < (IntKind.wrap .i32 p2))))
 let E22 : EN := (80, .one .top (.int .i32 (IntKind.wrap .i32 p1)))
 let E23 : EN := (81, .one .top (.int .i32 (IntKind.wrap .i32 p2)))
 let E24 : EN := (82, vb (decide ((IntKind.wrap .i32 p1) ≤ (IntKind.wrap .i32 p2))))
 let E25 : EN := (86, vu p1)
 let E26 : EN := (87, vu p2)
 let E27 : EN := (88, vb (p1 == p2))
 let E28 : EN := (92, vu p1)
 let E29 : EN := (93, vu p2)
 let E30 : EN := (94, vb (p1 != p2))
 let S31 : St := ⟨[(0, vi p0), E1, E2], [], H⟩
 let S32 : St := ⟨[E1, E2, E3, E4, E5], [], H⟩
 let S33 : St := ⟨[E1, E2], [], H⟩
 let S34 : St := ⟨[E3, E4], [], H⟩
 let S35 : St := ⟨[E3, E4, E8, E9], [], H⟩
 let S36 : St := ⟨[E3, E4, E12, E13], [], H⟩
 let S37 : St := ⟨[E3, E4, E16, E17], [], H⟩
 let S38 : St := ⟨[E3, E4, E19, E20, E21], [], H⟩
 let S39 : St := ⟨[E3, E4, E22, E23, E24], [], H⟩
 let S40 : St := ⟨[E1, E2, E25, E26, E27], [], H⟩
 let S41 : St := ⟨[E1, E2, E28, E29, E30], [], H⟩
 refine yf Try.func116 true S31 ?_
 unfold ref04_reckon at hF
 refine ysg S31 ?_
 refine ysg ⟨[(0, vi p0), E1, E2, E3, E4], [], H⟩ ?_
 refine ysg S32 ?_
 refine w_block ?_
 refine ysg ⟨[E1, E2, E3, E4, E5, (19, vb (p0 == 6))], [], H⟩ ?_
 rcases if_inv hF with ⟨h1, hF⟩ | ⟨h1, hF⟩
 refine yT h1 S33 ?_
 refine ysg ⟨[(6, vu (IntKind.wrap .u32 (p1 + p2))), E6], [], H⟩ ?_
 refine w_ret ?_
 obtain ⟨e0, e1⟩ := some2_inv hF
 subst e0
 subst e1
 exact yp (.tup [vu (IntKind.wrap .u32 (p1 + p2)), vT])
 refine yF h1 S32 ?_
 refine ysg ⟨[E1, E2, E3, E4, E5, (24, vb (p0 == 7))], [], H⟩ ?_
 rcases if_inv hF with ⟨h2, hF⟩ | ⟨h2, hF⟩
 refine yT h2 S33 ?_
 refine ysg ⟨[(6, vu (IntKind.wrap .u32 (p1 - p2))), E6], [], H⟩ ?_
 refine w_ret ?_
 obtain ⟨e0, e1⟩ := some2_inv hF
 subst e0
 subst e1
 exact yp (.tup [vu (IntKind.wrap .u32 (p1 - p2)), vT])
 refine yF h2 S32 ?_
 refine ysg ⟨[E1, E2, E3, E4, E5, (29, vb (p0 == 8))], [], H⟩ ?_
 rcases if_inv hF with ⟨h3, hF⟩ | ⟨h3, hF⟩
 refine yT h3 S34 ?_
 refine w_seq ?_
 obtain ⟨r4, c5, hF⟩ := bind1_inv hF
 let E7 : EN := (6, vu (IntKind.wrap .u32 r4))
 let E10 : EN := (33, .one .top (.int .i32 r4))
 refine w_regO ⟨[E7, E6], [], H⟩ ?_ ?_
 refine yr 2 S35 ?_
 refine o_one ⟨[E3, E4, E8, E9, E10], [], H⟩ (yc (some 33) true false S35 (ok_ref01_Times H c5)) ?_
 refine yr 3 ⟨[E7, E6, E3, E4, E8, E9, E10, (34, vu (IntKind.wrap .u32 r4))], [], H⟩ ?_
 exact ye
 refine w_ret ?_
 obtain ⟨e0, e1⟩ := some2_inv hF
 subst e0
 subst e1
 exact yp (.tup [vu (IntKind.wrap .u32 r4), vT])
 refine yF h3 S32 ?_
 refine ysg ⟨[E1, E2, E3, E4, E5, (35, vb (p0 == 9))], [], H⟩ ?_
 rcases if_inv hF with ⟨h6, hF⟩ | ⟨h6, hF⟩
 refine yT h6 S34 ?_
 refine w_seq ?_
 obtain ⟨r7, r8, c9, hF⟩ := bind2_inv hF
 let E11 : EN := (10, .one .top (.int .i32 r7))
 let E14 : EN := (40, .tup [.one .top (.int .i32 r7), vb r8])
 refine w_regO ⟨[E11, (11, vb r8)], [], H⟩ ?_ ?_
 refine yr 2 S36 ?_
 refine o_one ⟨[E3, E4, E12, E13, E14], [], H⟩ (yc (some 40) true false S36 (ok_ref01_Div H c9)) ?_
 refine yr 5 ⟨[E3, E4, E11, (11, vb r8), (37, .tup [.one .top (.int .i32 r7), vb r8]), E12, E13, E14, (41, .one .top (.int .i32 r7)), (42, vb r8)], [], H⟩ ?_
 exact ye
 refine ysg ⟨[(6, vu (IntKind.wrap .u32 r7)), (7, vb r8)], [], H⟩ ?_
 refine w_ret ?_
 obtain ⟨e0, e1⟩ := some2_inv hF
 subst e0
 subst e1
 exact yp (.tup [vu (IntKind.wrap .u32 r7), vb r8])
 refine yF h6 S32 ?_
 refine ysg ⟨[E1, E2, E3, E4, E5, (46, vb (p0 == 10))], [], H⟩ ?_
 rcases if_inv hF with ⟨h10, hF⟩ | ⟨h10, hF⟩
 refine yT h10 S34 ?_
 refine w_seq ?_
 obtain ⟨r11, r12, c13, hF⟩ := bind2_inv hF
 let E15 : EN := (12, .one .top (.int .i32 r11))
 let E18 : EN := (51, .tup [.one .top (.int .i32 r11), vb r12])
 refine w_regO ⟨[E15, (13, vb r12)], [], H⟩ ?_ ?_
 refine yr 2 S37 ?_
 refine o_one ⟨[E3, E4, E16, E17, E18], [], H⟩ (yc (some 51) true false S37 (ok_ref01_Mod H c13)) ?_
 refine yr 5 ⟨[E3, E4, E15, (13, vb r12), (48, .tup [.one .top (.int .i32 r11), vb r12]), E16, E17, E18, (52, .one .top (.int .i32 r11)), (53, vb r12)], [], H⟩ ?_
 exact ye
 refine ysg ⟨[(6, vu (IntKind.wrap .u32 r11)), (7, vb r12)], [], H⟩ ?_
 refine w_ret ?_
 obtain ⟨e0, e1⟩ := some2_inv hF
 subst e0
 subst e1
 exact yp (.tup [vu (IntKind.wrap .u32 r11), vb r12])
 refine yF h10 S32 ?_
 refine ysg ⟨[E1, E2, E3, E4, E5, (57, vb (p0 == 11))], [], H⟩ ?_
 rcases if_inv hF with ⟨h14, hF⟩ | ⟨h14, hF⟩
 refine yT h14 S33 ?_
 refine ysg ⟨[(6, vu (bitsOf .and .u32 p1 p2)), E6], [], H⟩ ?_
 refine w_ret ?_
 obtain ⟨e0, e1⟩ := some2_inv hF
 subst e0
 subst e1
 exact yp (.tup [vu (bitsOf .and .u32 p1 p2), vT])
 refine yF h14 S32 ?_
 refine ysg ⟨[E1, E2, E3, E4, E5, (62, vb (p0 == 12))], [], H⟩ ?_
 rcases if_inv hF with ⟨h15, hF⟩ | ⟨h15, hF⟩
 refine yT h15 S33 ?_
 refine ysg ⟨[(6, vu (bitsOf .or .u32 p1 p2)), E6], [], H⟩ ?_
 refine w_ret ?_
 obtain ⟨e0, e1⟩ := some2_inv hF
 subst e0
 subst e1
 exact yp (.tup [vu (bitsOf .or .u32 p1 p2), vT])
 refine yF h15 S32 ?_
 refine ysg ⟨[E1, E2, E3, E4, E5, (67, vb (p0 == 13))], [], H⟩ ?_
 rcases if_inv hF with ⟨h16, hF⟩ | ⟨h16, hF⟩
 refine yT h16 S33 ?_
 refine ysg ⟨[(6, vu (bitsOf .xor .u32 p1 p2)), E6], [], H⟩ ?_
 refine w_ret ?_
 obtain ⟨e0, e1⟩ := some2_inv hF
 subst e0
 subst e1
 exact yp (.tup [vu (bitsOf .xor .u32 p1 p2), vT])
 refine yF h16 S32 ?_
 refine ysg ⟨[E1, E2, E3, E4, E5, (72, vb (p0 == 14))], [], H⟩ ?_
 rcases if_inv hF with ⟨h17, hF⟩ | ⟨h17, hF⟩
 refine yT h17 S34 ?_
 refine w_seq ?_
 obtain ⟨r18, c19, hF⟩ := bind1_inv hF
 refine w_regO ⟨[(6, vu r18), E6], [], H⟩ ?_ ?_
 refine yr 3 S38 ?_
 refine o_one ⟨[E3, E4, E19, E20, E21, (77, vu r18)], [], H⟩ (yc (some 77) true false S38 (ok_ref04_is H c19)) ?_
 refine yr 2 ⟨[(6, vu r18), E6, E3, E4, E19, E20, E21, (77, vu r18)], [], H⟩ ?_
 exact ye
 refine w_ret ?_
 obtain ⟨e0, e1⟩ := some2_inv hF
 subst e0
 subst e1
 exact yp (.tup [vu r18, vT])
 refine yF h17 S32 ?_
 refine ysg ⟨[E1, E2, E3, E4, E5, (78, vb (p0 == 15))], [], H⟩ ?_
 rcases if_inv hF with ⟨h20, hF⟩ | ⟨h20, hF⟩
 refine yT h20 S34 ?_
 refine w_seq ?_
 obtain ⟨r21, c22, hF⟩ := bind1_inv hF
 refine w_regO ⟨[(6, vu r21), E6], [], H⟩ ?_ ?_
 refine yr 3 S39 ?_
 refine o_one ⟨[E3, E4, E22, E23, E24, (83, vu r21)], [], H⟩ (yc (some 83) true false S39 (ok_ref04_is H c22)) ?_
 refine yr 2 ⟨[(6, vu r21), E6, E3, E4, E22, E23, E24, (83, vu r21)], [], H⟩ ?_
 exact ye
 refine w_ret ?_
 obtain ⟨e0, e1⟩ := some2_inv hF
 subst e0
 subst e1
 exact yp (.tup [vu r21, vT])
 refine yF h20 ⟨[E1, E2, E5], [], H⟩ ?_
 refine ysg ⟨[E1, E2, E5, (84, vb (p0 == 16))], [], H⟩ ?_
 rcases if_inv hF with ⟨h23, hF⟩ | ⟨h23, hF⟩
 refine yT h23 S33 ?_
 refine w_seq ?_
 obtain ⟨r24, c25, hF⟩ := bind1_inv hF
 refine w_regO ⟨[(6, vu r24), E6], [], H⟩ ?_ ?_
 refine yr 3 S40 ?_
 refine o_one ⟨[E1, E2, E25, E26, E27, (89, vu r24)], [], H⟩ (yc (some 89) true false S40 (ok_ref04_is H c25)) ?_
 refine yr 2 ⟨[E1, E2, (6, vu r24), E6, E25, E26, E27, (89, vu r24)], [], H⟩ ?_
 exact ye
 refine w_ret ?_
 obtain ⟨e0, e1⟩ := some2_inv hF
 subst e0
 subst e1
 exact yp (.tup [vu r24, vT])
 refine yF h23 ⟨[E1, E2, E5], [], H⟩ ?_
 refine ysg ⟨[E1, E2, (90, vb (p0 == 17))], [], H⟩ ?_
 rcases if_inv hF with ⟨h26, hF⟩ | ⟨h26, hF⟩
 refine yT h26 S33 ?_
 refine w_seq ?_
 obtain ⟨r27, c28, hF⟩ := bind1_inv hF
 refine w_regO ⟨[(6, vu r27), E6], [], H⟩ ?_ ?_
 refine yr 3 S41 ?_
 refine o_one ⟨[E1, E2, E28, E29, E30, (95, vu r27)], [], H⟩ (yc (some 95) true false S41 (ok_ref04_is H c28)) ?_
 refine yr 2 ⟨[E1, E2, (6, vu r27), E6, E28, E29, E30, (95, vu r27)], [], H⟩ ?_
 exact ye
 refine w_ret ?_
 obtain ⟨e0, e1⟩ := some2_inv hF
 subst e0
 subst e1
 exact yp (.tup [vu r27, vT])
 refine yF h26 ⟨[], [], H⟩ ?_
 refine ysg ⟨[(6, vu 0), E6], [], H⟩ ?_
 refine w_ret ?_
 obtain ⟨e0, e1⟩ := some2_inv hF
 subst e0
 subst e1
 exact yp (.tup [vu 0, vT])
noncomputable def ref04_trap  (p0 : T_ref04_Cpu) (p1 : Int) : Option (T_ref04_Cpu) :=
  if (decide (p0.PC_ < p0.Guard_)) = true then (bind1 (ref04_fault p0 111) fun r2 =>
  some r2)
  else (some (T_ref04_Cpu.mk p0.R_ p0.Vector_ p0.PC_ p1 p0.State_ p0.Why_ p0.Steps_ p0.Taken_ p0.Out_ p0.Entry_ p0.Vector_ p0.Guard_ p0.Limit_ p0.Input_))
theorem ok_ref04_trap (H : Heap) {p0 : T_ref04_Cpu} {p1 : Int} {ra : T_ref04_Cpu} (hF : ref04_trap p0 p1 = some ra) : evS X 117 [.agg (m1_ref04_Cpu p0), .one .top (.int .u32 p1)] H = some (.agg (m1_ref04_Cpu ra), H) := by
 let E1 : EN := (2, vl 2 0)
 let E2 : EN := (4, vl 4 0)
 let B3 : EB := (2, (m1_ref04_Cpu p0))
 let B4 : EB := (4, (List.replicate 19 (.top, .int .u32 0) ++ List.replicate 4 (.top, .int .i64 0) ++ [((.own 1), .sl 2 (List.map e_api_Event ([] : List T_api_Event)))] ++ List.replicate 4 (.top, .int .u32 0) ++ [((.own 1), .sl 1 (List.map (eI .i32) ([] : List Int)))]))
 let E5 : EN := (10, .agg (m1_ref04_Cpu p0))
 let S7 : St := ⟨[(1, vu p1), E1, E2], [B3, B4], H⟩
 let S8 : St := ⟨[E1, E2, E5], [B3, B4], H⟩
 refine yf Try.func117 true ⟨[(0, .agg (m1_ref04_Cpu p0)), (1, vu p1)], [], H⟩ ?_
 unfold ref04_trap at hF
 refine ysg S7 ?_
 refine w_seq ?_
 refine ysg ⟨[(1, vu p1), E1, E2, (9, vb (decide (p0.PC_ < p0.Guard_)))], [B3, B4], H⟩ ?_
 rcases if_inv hF with ⟨h1, hF⟩ | ⟨h1, hF⟩
 refine yT h1 ⟨[E1, E2], [B3, B4], H⟩ ?_
 refine w_seq ?_
 obtain ⟨r2, c3, hF⟩ := bind1_inv hF
 let E6 : EN := (11, .agg (m1_ref04_Cpu r2))
 refine w_regO ⟨[E2], [(4, (m1_ref04_Cpu r2))], H⟩ ?_ ?_
 refine yr 1 S8 ?_
 refine o_one ⟨[E1, E2, E5, E6], [B3, B4], H⟩ (yc (some 11) true false S8 (ok_ref04_fault H c3)) ?_
 refine yr 1 ⟨[E1, E2, E5, E6], [B3, (4, (m1_ref04_Cpu r2))], H⟩ ?_
 exact ye
 refine w_ret ?_
 obtain e0 := some1_inv hF
 subst e0
 exact yp (.agg (m1_ref04_Cpu r2))
 refine yF h1 S7 ?_
 refine w_skip ?_
 refine ysg ⟨[E1, E2], [(2, (arM .u32 16 p0.R_ ++ [(.top, .int .u32 p0.Vector_), (.top, .int .u32 p0.PC_), (.top, .int .u32 p1), (.top, .int .i64 p0.State_), (.top, .int .i64 p0.Why_), (.top, .int .i64 p0.Steps_), (.top, .int .i64 p0.Taken_), ((.own 0), .sl 2 (List.map e_api_Event p0.Out_)), (.top, .int .u32 p0.Entry_), (.top, .int .u32 p0.Vector_), (.top, .int .u32 p0.Guard_), (.top, .int .u32 p0.Limit_), ((.own 0), .sl 1 (List.map (eI .i32) p0.Input_))])), B4], H⟩ ?_
 refine ysg ⟨[E2], [(4, (arM .u32 16 p0.R_ ++ [(.top, .int .u32 p0.Vector_), (.top, .int .u32 p0.PC_), (.top, .int .u32 p1), (.top, .int .i64 p0.State_), (.top, .int .i64 p0.Why_), (.top, .int .i64 p0.Steps_), (.top, .int .i64 p0.Taken_), ((.own 0), .sl 2 (List.map e_api_Event p0.Out_)), (.top, .int .u32 p0.Entry_), (.top, .int .u32 p0.Vector_), (.top, .int .u32 p0.Guard_), (.top, .int .u32 p0.Limit_), ((.own 0), .sl 1 (List.map (eI .i32) p0.Input_))]))], H⟩ ?_
 refine w_ret ?_
 obtain e0 := some1_inv hF
 subst e0
 exact yp (.agg (arM .u32 16 p0.R_ ++ [(.top, .int .u32 p0.Vector_), (.top, .int .u32 p0.PC_), (.top, .int .u32 p1), (.top, .int .i64 p0.State_), (.top, .int .i64 p0.Why_), (.top, .int .i64 p0.Steps_), (.top, .int .i64 p0.Taken_), ((.own 0), .sl 2 (List.map e_api_Event p0.Out_)), (.top, .int .u32 p0.Entry_), (.top, .int .u32 p0.Vector_), (.top, .int .u32 p0.Guard_), (.top, .int .u32 p0.Limit_), ((.own 0), .sl 1 (List.map (eI .i32) p0.Input_))]))
theorem ok_ref03_with_2 (H : Heap) {p0 : T_ref03_Mem} {p1 : Int} {p2 : (List Int)} {ra : T_ref03_Mem} (hF : ref03_with p0 p1 p2 = some ra) : evS X 94 [.agg (m0_ref03_Mem p0), .one .top (.int .i64 p1), .one (.own 1) (.sl 1 (List.map (eI .u32) p2))] H = some (.agg (m0_ref03_Mem ra), H) := by
 let E1 : EN := (1, vi p1)
 let E2 : EN := (2, .one (.own 1) (.sl 1 (List.map (eI .u32) p2)))
 let E3 : EN := (3, vl 3 0)
 let E4 : EN := (6, vl 6 0)
 let B5 : EB := (3, (m0_ref03_Mem p0))
 let B6 : EB := (6, (List.replicate 5 (.top, .int .u32 0) ++ [((.own 1), .sl 1 (List.map (eI .u32) ([] : List Int)))]))
 let E8 : EN := (9, vl 3 5)
 let E9 : EN := (10, .one (.own 0) (.sl 1 (List.map (eI .u32) p0.W_)))
 let E10 : EN := (11, vi (p0.W_.length : Int))
 let E13 : EN := (15, .one (.own 0) (.sl 1 (List.map (eI .u32) p0.W_)))
 let E18 : EN := (18, .one .bl (.sl 1 (List.map (eI .u32) p2)))
 let E21 : EN := (24, vi p1)
 let E24 : EN := (27, .one .bl (.sl 1 (List.map (eI .u32) p2)))
 let S29 : St := ⟨[E1, E2, E3, E4, E8, E9], [B5, B6], H⟩
 let S30 : St := ⟨[E1, E2, E3, E4, E8, E9, E10], [B5, B6], H⟩
 refine yf Try.func94 true ⟨[(0, .agg (m0_ref03_Mem p0)), E1, E2], [], H⟩ ?_
 unfold ref03_with at hF
 refine ysg ⟨[E1, E2, E3, E4], [B5, B6], H⟩ ?_
 refine w_seq ?_
 obtain ⟨v1, h2, hF⟩ := bind1_inv hF
 let E7 : EN := (7, .one (.own 1) (.sl 1 (List.map (eI .u32) v1)))
 let E12 : EN := (13, .one .top (.at_ (.tmp 7) 0 ((List.map (eI .u32) v1).length)))
 let S31 : St := ⟨[E1, E2, E3, E4, E7, E12, (14, vl 3 5), E13], [B5, B6], H⟩
 refine w_regO ⟨[E1, E2, E3, E4, E7], [B5, B6], H⟩ ?_ ?_
 refine yr 2 S29 ?_
 refine o_one S30 (yl S29 p0.W_ (eI .u32) (some 11)) ?_
 refine o_one ⟨[E1, E2, E3, E4, E8, E9, E10, (12, .one (.own 1) (.sl 1 (List.map (eI .u32) v1)))], [B5, B6], H⟩ (st_mk (X := X) S30 4 h2 42 35 1 [(.top, .int .u32 0)] (eI .u32) 0 (.i64) (.i64) (some 12) (by kernel_rfl) (by kernel_rfl) (by kernel_rfl) (by kernel_rfl) (by kernel_rfl) (by kernel_rfl) (by kernel_rfl) (by kernel_rfl) (by kernel_rfl) (by kernel_rfl)) ?_
 refine yr 1 ⟨[E1, E2, E3, E4, E7, E8, E9, E10, (12, .one .top .junk)], [B5, B6], H⟩ ?_
 exact ye
 refine w_seq ?_
 obtain ⟨v3, h4, hF⟩ := bnd_inv hF
 let E11 : EN := (7, .one (.own 1) (.sl 1 (List.map (eI .u32) v3)))
 refine w_regO ⟨[E1, E2, E3, E4, E11], [B5, B6], H⟩ ?_ ?_
 refine yr 3 S31 ?_
 refine o_one ⟨[E1, E2, E3, E4, E11, E12, (14, vl 3 5), E13, (16, vi (((min p0.W_.length (v1.length - 0) : Nat)) : Int))], [B5, B6], H⟩ (st_cpT (X := X) S31 42 35 0 1 (eI .u32) 7 (.own 0) v1 p0.W_ 0 h4 (some 16) ⟨true, []⟩ (Nat.zero_le _) (by kernel_rfl) (by kernel_rfl) (by kernel_rfl) (fun _ => rfl) (fun _ => rfl) (by kernel_rfl) (by kernel_rfl)) ?_
 exact ye
 refine w_seq ?_
 refine ysg ⟨[E1, E2, E3, E4, E11, (8, vi 0)], [B5, B6], H⟩ ?_
 refine w_block ?_
 obtain ⟨r14, hL15, hF⟩ := bind1_inv hF
 refine w_loop (fun (x : ((List Int) × Int)) => (⟨[E1, E2, E3, E4, (7, .one (.own 1) (.sl 1 (List.map (eI .u32) x.1))), (8, vi x.2)], [B5, B6], H⟩ : St)) (fun (y : ((List Int))) => ((.exit 0, (⟨[E3, E4, (7, .one (.own 1) (.sl 1 (List.map (eI .u32) y)))], [B5, B6], H⟩ : St)) : Ex × St)) hL15 (by kernel_rfl) ?_ ?_
 rintro ⟨a5, a6⟩ o hF
 replace hF : ref03_with_L1 p2 p1 a5 a6 = some o := hF
 let E14 : EN := (7, .one (.own 1) (.sl 1 (List.map (eI .u32) a5)))
 let E15 : EN := (8, vi a6)
 let E16 : EN := (20, vb (decide (a6 < (p2.length : Int))))
 let E17 : EN := (17, vi a6)
 let E20 : EN := (23, .one .top (.at_ (.tmp 7) 0 ((List.map (eI .u32) a5).length)))
 let E22 : EN := (25, vi a6)
 let E23 : EN := (26, vi (IntKind.wrap .i64 (p1 + a6)))
 let E25 : EN := (28, vi a6)
 let E28 : EN := (31, .one .top (.el (.tmp 7) (Int.toNat (IntKind.wrap .i64 (p1 + a6))) 0))
 let S32 : St := ⟨[E1, E2, E3, E4, E14, E15, E17, E18], [B5, B6], H⟩
 let S33 : St := ⟨[E1, E2, E3, E4, E14, E15, E20, E21, E22, E23, E24, E25], [B5, B6], H⟩
 unfold ref03_with_L1 at hF
 refine w_seq ?_
 refine yso ⟨[E1, E2, E3, E4, E14, E15, E16], [B5, B6], H⟩ ?_ ?_
 refine yr 2 S32 ?_
 refine o_one ⟨[E1, E2, E3, E4, E14, E15, E17, E18, (19, vi (p2.length : Int))], [B5, B6], H⟩ (yl S32 p2 (eI .u32) (some 19)) ?_
 refine yr 1 ⟨[E1, E2, E3, E4, E14, E15, E17, E18, (19, vi (p2.length : Int)), E16], [B5, B6], H⟩ ?_
 exact ye
 rcases if_inv hF with ⟨h7, hF⟩ | ⟨h7, hF⟩
 refine yT h7 ⟨[E1, E2, E3, E4, E14, E15], [B5, B6], H⟩ ?_
 refine w_skip ?_
 refine w_seq ?_
 refine w_block ?_
 obtain ⟨x8, h9, hF⟩ := bind1_inv hF
 let E26 : EN := (29, .one .top (.rd .bl .bl [.int .u32 x8] 0))
 let E27 : EN := (30, vu x8)
 let S34 : St := ⟨[E1, E2, E3, E4, E14, E15, E20, E21, E22, E23, E24, E25, E26, E27], [B5, B6], H⟩
 let S35 : St := ⟨[E1, E2, E3, E4, E14, E15, E20, E21, E22, E23, E24, E25, E26, E27, E28], [B5, B6], H⟩
 obtain ⟨x10, h11, hF⟩ := bind1_inv hF
 obtain ⟨v12, h13, hF⟩ := bind1_inv hF
 let E19 : EN := (7, .one (.own 1) (.sl 1 (List.map (eI .u32) v12)))
 refine w_regO ⟨[E1, E2, E3, E4, E19, E15], [B5, B6], H⟩ ?_ ?_
 refine yr 6 S33 ?_
 refine o_one ⟨[E1, E2, E3, E4, E14, E15, E20, E21, E22, E23, E24, E25, E26], [B5, B6], H⟩ (st_ix (X := X) S33 42 35 1 h9 (eI .u32) .bl (some 29) (by kernel_rfl) (by kernel_rfl) (by kernel_rfl) (by kernel_rfl)) ?_
 refine yr 1 S34 ?_
 refine o_one S35 (st_ixA (X := X) S34 42 35 1 h11 (eI .u32) (.tmp 7) 0 (List.map (eI .u32) a5).length 0 (some 31) (by kernel_rfl) (by kernel_rfl) (by kernel_rfl) (by kernel_rfl) rfl (List.length_map _) (by kernel_rfl)) ?_
 refine o_one ⟨[E1, E2, E3, E4, E19, E15, E20, E21, E22, E23, (27, .one .top .junk), E25, (29, .one .top .junk), E27, E28], [B5, B6], H⟩ (st_stE (X := X) S35 (⟨[E1, E2, E3, E4, E19, E15, E20, E21, E22, E23, E24, E25, E26, E27, E28], [B5, B6], H⟩ : St) ⟨true, []⟩ 35 (.tmp 7) (Int.toNat (IntKind.wrap .i64 (p1 + a6))) 0 1 0 (List.map (eI .u32) a5) [.int .u32 x10] ((eI .u32) x8) (List.map (eI .u32) v12) 1 (vu x8) (by kernel_rfl) (by kernel_rfl) (by kernel_rfl) (by kernel_rfl) (by kernel_rfl) (by kernel_rfl) (el_at h11) (by kernel_rfl) (by kernel_rfl) (el_put h13) (by kernel_rfl) (by kernel_rfl)) ?_
 exact ye
 refine yg ⟨[E1, E2, E3, E4, E19, (8, vi (IntKind.wrap .i64 (a6 + 1)))], [B5, B6], H⟩ ?_
 cases hF
 exact ⟨_, rfl, (by kernel_rfl)⟩
 refine yF h7 ⟨[E3, E4, E14], [B5, B6], H⟩ ?_
 refine w_exit ?_
 cases hF
 exact ⟨_, rfl, (by kernel_rfl)⟩
 obtain ⟨b16, hy⟩ : ∃ y, y = r14 := ⟨_, rfl⟩
 subst hy
 refine w_oe (i := 0) (s := (⟨[E3, E4, (7, .one (.own 1) (.sl 1 (List.map (eI .u32) b16)))], [B5, B6], H⟩ : St)) (by kernel_rfl) ?_
 refine e_here ?_
 refine ysg ⟨[E3, E4], [(3, (arM .u32 5 p0.Ends_ ++ [((.own 1), .sl 1 (List.map (eI .u32) b16))])), B6], H⟩ ?_
 refine ysg ⟨[E4], [(6, (arM .u32 5 p0.Ends_ ++ [((.own 1), .sl 1 (List.map (eI .u32) b16))]))], H⟩ ?_
 refine w_ret ?_
 obtain e0 := some1_inv hF
 subst e0
 exact yp (.agg (arM .u32 5 p0.Ends_ ++ [((.own 1), .sl 1 (List.map (eI .u32) b16))]))
noncomputable def ref03_Store  (p0 : T_ref03_Mem) (p1 : Int) (p2 : Int) : Option (T_ref03_Mem × Int) :=
  bind2 (ref03_Load p0 p1) fun r1 r2 =>
  if (r2 != 0) = true then (some (p0, r2))
  else (if (decide (p1 < (p0.Ends_.g 1))) = true then (some (p0, 32))
  else (bind1 (ref03_with p0 (IntKind.wrap .i64 (IntKind.wrap .u32 (Int.tdiv p1 4))) ([p2] : List Int)) fun r6 =>
  some (r6, 0)))
theorem ok_ref03_Store (H : Heap) {p0 : T_ref03_Mem} {p1 : Int} {p2 : Int} {ra : T_ref03_Mem} {rb : Int} (hF : ref03_Store p0 p1 p2 = some (ra, rb)) : evS X 118 [.agg (m0_ref03_Mem p0), .one .top (.int .u32 p1), .one .top (.int .u32 p2)] H = some (.tup [.agg (m0_ref03_Mem ra), .one .top (.int .i64 rb)], H) := by
 let E1 : EN := (1, vu p1)
 let E2 : EN := (2, vu p2)
 let E3 : EN := (3, vl 3 0)
 let E4 : EN := (6, vl 6 0)
 let B5 : EB := (3, (m0_ref03_Mem p0))
 let B6 : EB := (6, (List.replicate 5 (.top, .int .u32 0) ++ [((.own 1), .sl 1 (List.map (eI .u32) ([] : List Int)))]))
 let E7 : EN := (11, .agg (m0_ref03_Mem p0))
 let E8 : EN := (12, vu p1)
 let E9 : EN := (26, .agg (m0_ref03_Mem p0))
 let E10 : EN := (27, vu p1)
 let E11 : EN := (28, vu (IntKind.wrap .u32 (Int.tdiv p1 4)))
 let E12 : EN := (29, vi (IntKind.wrap .i64 (IntKind.wrap .u32 (Int.tdiv p1 4))))
 let E13 : EN := (30, vu p2)
 let E14 : EN := (31, .one .top .junk)
 let S16 : St := ⟨[E1, E2, E3, E4], [B5, B6], H⟩
 let S17 : St := ⟨[E1, E2, E3, E4, E7, E8], [B5, B6], H⟩
 refine yf Try.func118 true ⟨[(0, .agg (m0_ref03_Mem p0)), E1, E2], [], H⟩ ?_
 unfold ref03_Store at hF
 refine ysg S16 ?_
 refine w_seq ?_
 refine w_seq ?_
 obtain ⟨r1, r2, c3, hF⟩ := bind2_inv hF
 refine w_regO ⟨[E1, E2, E3, E4, (9, vi r2)], [B5, B6], H⟩ ?_ ?_
 refine yr 2 S17 ?_
 refine o_one ⟨[E1, E2, E3, E4, E7, E8, (13, .tup [vu r1, vi r2])], [B5, B6], H⟩ (yc (some 13) true false S17 (ok_ref03_Load H c3)) ?_
 refine yr 5 ⟨[E1, E2, E3, E4, (8, vu r1), (9, vi r2), (10, .tup [vu r1, vi r2]), E7, E8, (13, .tup [vu r1, vi r2]), (14, vu r1), (15, vi r2)], [B5, B6], H⟩ ?_
 exact ye
 refine ysg ⟨[E1, E2, E3, E4, (9, vi r2), (17, vb (r2 != 0))], [B5, B6], H⟩ ?_
 rcases if_inv hF with ⟨h4, hF⟩ | ⟨h4, hF⟩
 refine yT h4 ⟨[E3, E4, (9, vi r2)], [B5, B6], H⟩ ?_
 refine ysg ⟨[E4, (7, vi r2)], [(6, (m0_ref03_Mem p0))], H⟩ ?_
 refine w_ret ?_
 obtain ⟨e0, e1⟩ := some2_inv hF
 subst e0
 subst e1
 exact yp (.tup [.agg (m0_ref03_Mem p0), vi r2])
 refine yF h4 S16 ?_
 refine w_skip ?_
 refine w_seq ?_
 refine ysg ⟨[E1, E2, E3, E4, (24, vb (decide (p1 < (p0.Ends_.g 1))))], [B5, B6], H⟩ ?_
 rcases if_inv hF with ⟨h5, hF⟩ | ⟨h5, hF⟩
 refine yT h5 ⟨[E3, E4], [B5, B6], H⟩ ?_
 refine ysg ⟨[E4, (7, vi 32)], [(6, (m0_ref03_Mem p0))], H⟩ ?_
 refine w_ret ?_
 obtain ⟨e0, e1⟩ := some2_inv hF
 subst e0
 subst e1
 exact yp (.tup [.agg (m0_ref03_Mem p0), vi 32])
 refine yF h5 S16 ?_
 refine w_skip ?_
 refine w_seq ?_
 obtain ⟨r6, c7, hF⟩ := bind1_inv hF
 let E15 : EN := (32, .agg (m0_ref03_Mem r6))
 refine w_regO ⟨[E4, (7, vi 0)], [(6, (m0_ref03_Mem r6))], H⟩ ?_ ?_
 refine yr 6 ⟨[E1, E2, E3, E4, E9, E10, E11, E12, E13, (31, .one (.own 1) (.sl 1 (List.map (eI .u32) ([p2] : List Int))))], [B5, B6], H⟩ ?_
 refine o_one ⟨[E1, E2, E3, E4, E9, E10, E11, E12, E13, E14, E15], [B5, B6], H⟩ (yc (some 32) true true (⟨[E1, E2, E3, E4, E9, E10, E11, E12, E13, E14], [B5, B6], H⟩ : St) (ok_ref03_with_2 H c7)) ?_
 refine yr 2 ⟨[E1, E2, E3, E4, (7, vi 0), E9, E10, E11, E12, E13, E14, E15], [B5, (6, (m0_ref03_Mem r6))], H⟩ ?_
 exact ye
 refine w_ret ?_
 obtain ⟨e0, e1⟩ := some2_inv hF
 subst e0
 subst e1
 exact yp (.tup [.agg (m0_ref03_Mem r6), vi 0])
end Go.Proofs.Abs
