/- The law ItemOuts: whatever the input, it answers true. No conditions. (Part ItemOutsF2 of its proof.) -/
import Derived.Test.YtjheniapmdcelaaItemOutsF1
set_option linter.unusedVariables false
set_option linter.unusedSimpArgs false
set_option linter.unusedSectionVars false
/- Printed by gen (walk.py). -/
namespace Go.Proofs.Abs
open Go Go.Proofs
set_option linter.unusedVariables false
set_option maxRecDepth 100000
set_option maxHeartbeats 0
noncomputable def ref02_Check_j2 (p0 : T_ref02_Instr) (j26 : Int) (j27 : Int) : Option (Int) :=
  if ((decide (p0.Imm_ < j26)) || (decide (p0.Imm_ > j27))) = true then (some 20)
  else (some 0)
noncomputable def ref02_Check_j4 (p0 : T_ref02_Instr) (j32 : Int) (j33 : Int) : Option (Int) :=
  ref02_Check_j2 p0 j32 j33
noncomputable def ref02_Check_j5 (p0 : T_ref02_Instr) (j35 : Int) (j36 : Int) : Option (Int) :=
  ref02_Check_j4 p0 j35 j36
noncomputable def ref02_Check_j3 (p0 : T_ref02_Instr) (r1 : Int) (j31 : Bool) : Option (Int) :=
  if j31 = true then (ref02_Check_j4 p0 0 65535)
  else (if (r1 == 7) = true then (ref02_Check_j5 p0 (-8388608) 8388607)
  else (ref02_Check_j5 p0 0 0))
noncomputable def ref02_Check_j6 (p0 : T_ref02_Instr) (r1 : Int) (j39 : Bool) : Option (Int) :=
  ref02_Check_j3 p0 r1 j39
noncomputable def ref02_Check_j1 (p0 : T_ref02_Instr) (r1 : Int) (j25 : Bool) : Option (Int) :=
  if j25 = true then (ref02_Check_j2 p0 (-32768) 32767)
  else (if (r1 == 2) = true then (ref02_Check_j3 p0 r1 (r1 == 2))
  else (if (r1 == 4) = true then (ref02_Check_j6 p0 r1 (r1 == 4))
  else (ref02_Check_j6 p0 r1 (r1 == 8))))
noncomputable def ref02_Check  (p0 : T_ref02_Instr) : Option (Int) :=
  bind1 (ref02_Shape p0.Op_) fun r1 =>
  if (decide (r1 < 0)) = true then (some 21)
  else (bind3 (ref02_has r1) fun r4 r5 r6 =>
  if ((decide (p0.A_ < 0)) || ((decide (p0.A_ > 15)) || ((decide (p0.B_ < 0)) || ((decide (p0.B_ > 15)) || ((decide (p0.C_ < 0)) || ((decide (p0.C_ > 15)) || (if (!r4) = true then ((p0.A_ != 0) || (if (!r5) = true then ((p0.B_ != 0) || ((!r6) && (p0.C_ != 0))) else ((!r6) && (p0.C_ != 0)))) else (if (!r5) = true then ((p0.B_ != 0) || ((!r6) && (p0.C_ != 0))) else ((!r6) && (p0.C_ != 0)))))))))) = true then (some 20)
  else (if (r1 == 1) = true then (ref02_Check_j1 p0 r1 (r1 == 1))
  else (ref02_Check_j1 p0 r1 (r1 == 3))))
theorem ok_ref02_Check (H : Heap) {p0 : T_ref02_Instr} {ra : Int} (hF : ref02_Check p0 = some ra) : evS X 90 [.agg (m0_ref02_Instr p0)] H = some (.one .top (.int .i64 ra), H) := by
  let E1 : EN := (1, .one .top (.loc 1 0))
  let B2 : EB := (1, (m0_ref02_Instr p0))
  let E4 : EN := (9, .one .top (.loc 1 0))
  let E5 : EN := (10, .one .top (.int .i64 p0.Op_))
  let E12 : EN := (20, .one .top (.loc 1 1))
  let E13 : EN := (21, .one .top (.int .i64 p0.A_))
  let E14 : EN := (27, .one .top (.bool true))
  let E15 : EN := (28, .one .top (.bool true))
  let E16 : EN := (32, .one .top (.bool true))
  let E17 : EN := (33, .one .top (.bool true))
  let E18 : EN := (37, .one .top (.bool true))
  let E19 : EN := (38, .one .top (.bool true))
  let E20 : EN := (39, .tup [])
  let E21 : EN := (40, .tup [])
  let E22 : EN := (41, .tup [])
  let E23 : EN := (42, .one .top (.bool true))
  let E24 : EN := (43, .one .top (.bool true))
  let E25 : EN := (44, .tup [])
  let E26 : EN := (45, .tup [])
  let E27 : EN := (46, .tup [])
  let E28 : EN := (47, .one .top (.bool true))
  let E29 : EN := (48, .one .top (.bool true))
  let E30 : EN := (49, .tup [])
  let E31 : EN := (50, .tup [])
  let E32 : EN := (51, .tup [])
  let E33 : EN := (52, .tup [])
  let E34 : EN := (53, .tup [])
  let E35 : EN := (54, .tup [])
  let E36 : EN := (55, .tup [])
  let E37 : EN := (56, .one .top (.bool true))
  let E38 : EN := (57, .one .top (.bool true))
  let E39 : EN := (58, .tup [])
  let E40 : EN := (59, .tup [])
  let E41 : EN := (60, .tup [])
  let E42 : EN := (61, .tup [])
  let E43 : EN := (62, .tup [])
  let E44 : EN := (63, .tup [])
  let E45 : EN := (64, .tup [])
  let E46 : EN := (65, .one .top (.bool true))
  let E47 : EN := (66, .one .top (.bool true))
  let E48 : EN := (67, .tup [])
  let E49 : EN := (68, .tup [])
  let E50 : EN := (69, .tup [])
  let E51 : EN := (70, .tup [])
  let E52 : EN := (71, .tup [])
  let E53 : EN := (72, .tup [])
  let E54 : EN := (73, .tup [])
  let E55 : EN := (74, .one .top (.bool true))
  let E56 : EN := (22, .one .top (.bool false))
  let E57 : EN := (23, .one .top (.bool false))
  let E58 : EN := (24, .one .top (.loc 1 1))
  let E59 : EN := (25, .one .top (.int .i64 p0.A_))
  let E60 : EN := (26, .one .top (.bool false))
  let E61 : EN := (27, .one .top (.bool false))
  let E62 : EN := (28, .one .top (.bool false))
  let E63 : EN := (29, .one .top (.loc 1 2))
  let E64 : EN := (30, .one .top (.int .i64 p0.B_))
  let E65 : EN := (31, .one .top (.bool false))
  let E66 : EN := (32, .one .top (.bool false))
  let E67 : EN := (33, .one .top (.bool false))
  let E68 : EN := (34, .one .top (.loc 1 2))
  let E69 : EN := (35, .one .top (.int .i64 p0.B_))
  let E70 : EN := (36, .one .top (.bool false))
  let E71 : EN := (37, .one .top (.bool false))
  let E72 : EN := (38, .one .top (.bool false))
  let E73 : EN := (39, .one .top (.loc 1 3))
  let E74 : EN := (40, .one .top (.int .i64 p0.C_))
  let E75 : EN := (41, .one .top (.bool false))
  let E76 : EN := (42, .one .top (.bool false))
  let E77 : EN := (43, .one .top (.bool false))
  let E78 : EN := (44, .one .top (.loc 1 3))
  let E79 : EN := (45, .one .top (.int .i64 p0.C_))
  let E80 : EN := (46, .one .top (.bool false))
  let E81 : EN := (47, .one .top (.bool false))
  let E82 : EN := (48, .one .top (.bool false))
  let E84 : EN := (50, .one .top (.bool true))
  let E85 : EN := (51, .one .top (.bool true))
  let E86 : EN := (52, .one .top (.loc 1 1))
  let E87 : EN := (53, .one .top (.int .i64 p0.A_))
  let E88 : EN := (54, .one .top (.bool false))
  let E89 : EN := (55, .one .top (.bool false))
  let E90 : EN := (56, .one .top (.bool false))
  let E91 : EN := (57, .one .top (.bool false))
  let E95 : EN := (59, .one .top (.bool true))
  let E96 : EN := (60, .one .top (.bool true))
  let E97 : EN := (61, .one .top (.loc 1 2))
  let E98 : EN := (62, .one .top (.int .i64 p0.B_))
  let E99 : EN := (63, .one .top (.bool (p0.B_ != 0)))
  let E100 : EN := (64, .one .top (.bool (p0.B_ != 0)))
  let E101 : EN := (65, .one .top (.bool (p0.B_ != 0)))
  let E102 : EN := (66, .one .top (.bool (p0.B_ != 0)))
  let E103 : EN := (63, .one .top (.bool true))
  let E104 : EN := (64, .one .top (.bool true))
  let E105 : EN := (63, .one .top (.bool false))
  let E106 : EN := (64, .one .top (.bool false))
  let E107 : EN := (65, .one .top (.bool false))
  let E108 : EN := (66, .one .top (.bool false))
  let E112 : EN := (68, .one .top (.bool true))
  let E113 : EN := (69, .one .top (.bool true))
  let E114 : EN := (70, .one .top (.loc 1 3))
  let E115 : EN := (71, .one .top (.int .i64 p0.C_))
  let E116 : EN := (72, .one .top (.bool (p0.C_ != 0)))
  let E117 : EN := (73, .one .top (.bool (p0.C_ != 0)))
  let E118 : EN := (74, .one .top (.bool (p0.C_ != 0)))
  let E119 : EN := (68, .one .top (.bool false))
  let E120 : EN := (69, .one .top (.bool false))
  let E121 : EN := (73, .one .top (.bool false))
  let E122 : EN := (74, .one .top (.bool false))
  let E123 : EN := (59, .one .top (.bool false))
  let E124 : EN := (60, .one .top (.bool false))
  let E125 : EN := (50, .one .top (.bool false))
  let E126 : EN := (51, .one .top (.bool false))
  let E127 : EN := (2, .one .top (.int .i64 20))
  let E128 : EN := (7, .one .top (.int .i64 0))
  let E129 : EN := (8, .one .top (.int .i64 0))
  let E134 : EN := (85, .one .top (.loc 1 4))
  let E135 : EN := (86, .one .top (.int .i64 p0.Imm_))
  let S139 : St := ⟨[E1], [B2], H⟩
  let S141 : St := ⟨[E1, E4, E5], [B2], H⟩
  let S142 : St := ⟨[], [], H⟩
  refine w_fun Try.func90 rfl (by kernel_rfl) true (by kernel_rfl) (s0 := (⟨[(0, .agg (m0_ref02_Instr p0))], [], H⟩ : St)) (by kernel_rfl) ?_
  unfold ref02_Check at hF
  refine w_seq ?_
  refine w_reg S139 (by kernel_rfl) ?_
  refine w_seq ?_
  obtain ⟨r1, c2, hF⟩ := bind1_inv hF
  let E3 : EN := (3, .one .top (.int .i64 r1))
  let E6 : EN := (11, .one .top (.int .i64 r1))
  let E10 : EN := (15, .one .top (.int .i64 r1))
  let E130 : EN := (75, .one .top (.int .i64 r1))
  let E131 : EN := (76, .one .top (.bool (r1 == 1)))
  let E137 : EN := (79, .one .top (.bool (r1 == 2)))
  let E138 : EN := (79, .one .top (.bool (r1 == 4)))
  let S140 : St := ⟨[E1, E3], [B2], H⟩
  let S143 : St := ⟨[E1, E3, E10], [B2], H⟩
  let S144 : St := ⟨[E1, E128, E129, E130], [B2], H⟩
  let S145 : St := ⟨[E1, E128, E129, E130, E131], [B2], H⟩
  let S146 : St := ⟨[E1, E128, E129, E130, E137], [B2], H⟩
  let S147 : St := ⟨[E1, E128, E129, E130, E138], [B2], H⟩
  refine w_regO S140 ?_ ?_
  refine o_run 2 S141 (by kernel_rfl) (by kernel_rfl) ?_
  refine o_one ⟨[E1, E4, E5, E6], [B2], H⟩ (st_call (d := (some 11)) (fz := false) (pure := true) (own := false) S141 (ok_ref02_Shape H c2) (by kernel_rfl) (by kernel_rfl)) ?_
  refine o_run 1 ⟨[E1, E3, E4, E5, E6], [B2], H⟩ (by kernel_rfl) (by kernel_rfl) ?_
  exact o_end (by kernel_rfl) (by kernel_rfl)
  refine w_seq ?_
  refine w_seq ?_
  refine w_reg ⟨[E1, E3, (13, .one .top (.bool (decide (r1 < 0))))], [B2], H⟩ (by kernel_rfl) ?_
  rcases if_inv hF with ⟨h3, hF⟩ | ⟨h3, hF⟩
  refine w_cT (m := .top) h3 (s1 := S142) (by kernel_rfl) (by kernel_rfl) ?_
  refine w_seq ?_
  refine w_reg ⟨[(2, .one .top (.int .i64 21))], [], H⟩ (by kernel_rfl) ?_
  refine w_ret ?_
  obtain e0 := some1_inv hF
  subst e0
  exact fin_pure (v := .one .top (.int .i64 21)) (by kernel_rfl) (by kernel_rfl) rfl (by kernel_rfl)
  refine w_cF (m := .top) h3 (s1 := S140) (by kernel_rfl) (by kernel_rfl) ?_
  refine w_skip ?_
  refine w_seq ?_
  obtain ⟨r4, r5, r6, c7, hF⟩ := bind3_inv hF
  let E7 : EN := (4, .one .top (.bool r4))
  let E8 : EN := (5, .one .top (.bool r5))
  let E9 : EN := (6, .one .top (.bool r6))
  let E11 : EN := (16, .tup [.one .top (.bool r4), .one .top (.bool r5), .one .top (.bool r6)])
  let E83 : EN := (49, .one .top (.bool r4))
  let E92 : EN := (58, .one .top (.bool r5))
  let E93 : EN := (59, .one .top (.bool (!r5)))
  let E94 : EN := (60, .one .top (.bool (!r5)))
  let E109 : EN := (67, .one .top (.bool r6))
  let E110 : EN := (68, .one .top (.bool (!r6)))
  let E111 : EN := (69, .one .top (.bool (!r6)))
  refine w_regO ⟨[E1, E3, E7, E8, E9], [B2], H⟩ ?_ ?_
  refine o_run 1 S143 (by kernel_rfl) (by kernel_rfl) ?_
  refine o_one ⟨[E1, E3, E10, E11], [B2], H⟩ (st_call (d := (some 16)) (fz := false) (pure := true) (own := false) S143 (ok_ref02_has H c7) (by kernel_rfl) (by kernel_rfl)) ?_
  refine o_run 7 ⟨[E1, E3, E7, E8, E9, (14, .tup [.one .top (.bool r4), .one .top (.bool r5), .one .top (.bool r6)]), E10, E11, (17, .one .top (.bool r4)), (18, .one .top (.bool r5)), (19, .one .top (.bool r6))], [B2], H⟩ (by kernel_rfl) (by kernel_rfl) ?_
  exact o_end (by kernel_rfl) (by kernel_rfl)
  refine w_seq ?_
  refine w_seq ?_
  refine w_regO ⟨[E1, E3, (74, .one .top (.bool ((decide (p0.A_ < 0)) || ((decide (p0.A_ > 15)) || ((decide (p0.B_ < 0)) || ((decide (p0.B_ > 15)) || ((decide (p0.C_ < 0)) || ((decide (p0.C_ > 15)) || (if (!r4) = true then ((p0.A_ != 0) || (if (!r5) = true then ((p0.B_ != 0) || ((!r6) && (p0.C_ != 0))) else ((!r6) && (p0.C_ != 0)))) else (if (!r5) = true then ((p0.B_ != 0) || ((!r6) && (p0.C_ != 0))) else ((!r6) && (p0.C_ != 0))))))))))))], [B2], H⟩ ?_ ?_
  refine o_run 4 ⟨[E1, E3, E7, E8, E9, E12, E13, (22, .one .top (.bool (decide (p0.A_ < 0)))), (23, .one .top (.bool (decide (p0.A_ < 0))))], [B2], H⟩ (by kernel_rfl) (by kernel_rfl) ?_
  rcases bool_cases (decide (p0.A_ < 0)) with h8 | h8
  refine o_eq (congrArg (fun q => (⟨[E1, E3, E7, E8, E9, E12, E13, (22, .one .top (.bool q)), (23, .one .top (.bool q))], [B2], H⟩ : St)) h8) ?_
  refine o_run 51 ⟨[E1, E3, E7, E8, E9, E12, E13, (22, .one .top (.bool true)), (23, .one .top (.bool true)), (24, .tup []), (25, .tup []), (26, .tup []), E14, E15, (29, .tup []), (30, .tup []), (31, .tup []), E16, E17, (34, .tup []), (35, .tup []), (36, .tup []), E18, E19, E20, E21, E22, E23, E24, E25, E26, E27, E28, E29, E30, E31, E32, E33, E34, E35, E36, E37, E38, E39, E40, E41, E42, E43, E44, E45, E46, E47, E48, E49, E50, E51, E52, E53, E54, E55], [B2], H⟩ (by kernel_rfl) (by kernel_rfl) ?_
  refine o_eq2 (congrArg (fun q0 => (⟨[E1, E3, (74, .one .top (.bool q0))], [B2], H⟩ : St)) (show true = ((decide (p0.A_ < 0)) || ((decide (p0.A_ > 15)) || ((decide (p0.B_ < 0)) || ((decide (p0.B_ > 15)) || ((decide (p0.C_ < 0)) || ((decide (p0.C_ > 15)) || (if (!r4) = true then ((p0.A_ != 0) || (if (!r5) = true then ((p0.B_ != 0) || ((!r6) && (p0.C_ != 0))) else ((!r6) && (p0.C_ != 0)))) else (if (!r5) = true then ((p0.B_ != 0) || ((!r6) && (p0.C_ != 0))) else ((!r6) && (p0.C_ != 0)))))))))) by simp [h8])) ?_
  exact o_end (by kernel_rfl) (by kernel_rfl)
  refine o_eq (congrArg (fun q => (⟨[E1, E3, E7, E8, E9, E12, E13, (22, .one .top (.bool q)), (23, .one .top (.bool q))], [B2], H⟩ : St)) h8) ?_
  refine o_run 5 ⟨[E1, E3, E7, E8, E9, E12, E13, E56, E57, E58, E59, (26, .one .top (.bool (decide (p0.A_ > 15)))), (27, .one .top (.bool (decide (p0.A_ > 15)))), (28, .one .top (.bool (decide (p0.A_ > 15))))], [B2], H⟩ (by kernel_rfl) (by kernel_rfl) ?_
  rcases bool_cases (decide (p0.A_ > 15)) with h9 | h9
  refine o_eq (congrArg (fun q => (⟨[E1, E3, E7, E8, E9, E12, E13, E56, E57, E58, E59, (26, .one .top (.bool q)), (27, .one .top (.bool q)), (28, .one .top (.bool q))], [B2], H⟩ : St)) h9) ?_
  refine o_run 46 ⟨[E1, E3, E7, E8, E9, E12, E13, E56, E57, E58, E59, (26, .one .top (.bool true)), E14, E15, (29, .tup []), (30, .tup []), (31, .tup []), E16, E17, (34, .tup []), (35, .tup []), (36, .tup []), E18, E19, E20, E21, E22, E23, E24, E25, E26, E27, E28, E29, E30, E31, E32, E33, E34, E35, E36, E37, E38, E39, E40, E41, E42, E43, E44, E45, E46, E47, E48, E49, E50, E51, E52, E53, E54, E55], [B2], H⟩ (by kernel_rfl) (by kernel_rfl) ?_
  refine o_eq2 (congrArg (fun q0 => (⟨[E1, E3, (74, .one .top (.bool q0))], [B2], H⟩ : St)) (show true = ((decide (p0.A_ < 0)) || ((decide (p0.A_ > 15)) || ((decide (p0.B_ < 0)) || ((decide (p0.B_ > 15)) || ((decide (p0.C_ < 0)) || ((decide (p0.C_ > 15)) || (if (!r4) = true then ((p0.A_ != 0) || (if (!r5) = true then ((p0.B_ != 0) || ((!r6) && (p0.C_ != 0))) else ((!r6) && (p0.C_ != 0)))) else (if (!r5) = true then ((p0.B_ != 0) || ((!r6) && (p0.C_ != 0))) else ((!r6) && (p0.C_ != 0)))))))))) by simp [h8, h9])) ?_
  exact o_end (by kernel_rfl) (by kernel_rfl)
  refine o_eq (congrArg (fun q => (⟨[E1, E3, E7, E8, E9, E12, E13, E56, E57, E58, E59, (26, .one .top (.bool q)), (27, .one .top (.bool q)), (28, .one .top (.bool q))], [B2], H⟩ : St)) h9) ?_
  refine o_run 5 ⟨[E1, E3, E7, E8, E9, E12, E13, E56, E57, E58, E59, E60, E61, E62, E63, E64, (31, .one .top (.bool (decide (p0.B_ < 0)))), (32, .one .top (.bool (decide (p0.B_ < 0)))), (33, .one .top (.bool (decide (p0.B_ < 0))))], [B2], H⟩ (by kernel_rfl) (by kernel_rfl) ?_
  rcases bool_cases (decide (p0.B_ < 0)) with h10 | h10
  refine o_eq (congrArg (fun q => (⟨[E1, E3, E7, E8, E9, E12, E13, E56, E57, E58, E59, E60, E61, E62, E63, E64, (31, .one .top (.bool q)), (32, .one .top (.bool q)), (33, .one .top (.bool q))], [B2], H⟩ : St)) h10) ?_
  refine o_run 41 ⟨[E1, E3, E7, E8, E9, E12, E13, E56, E57, E58, E59, E60, E61, E62, E63, E64, (31, .one .top (.bool true)), E16, E17, (34, .tup []), (35, .tup []), (36, .tup []), E18, E19, E20, E21, E22, E23, E24, E25, E26, E27, E28, E29, E30, E31, E32, E33, E34, E35, E36, E37, E38, E39, E40, E41, E42, E43, E44, E45, E46, E47, E48, E49, E50, E51, E52, E53, E54, E55], [B2], H⟩ (by kernel_rfl) (by kernel_rfl) ?_
  refine o_eq2 (congrArg (fun q0 => (⟨[E1, E3, (74, .one .top (.bool q0))], [B2], H⟩ : St)) (show true = ((decide (p0.A_ < 0)) || ((decide (p0.A_ > 15)) || ((decide (p0.B_ < 0)) || ((decide (p0.B_ > 15)) || ((decide (p0.C_ < 0)) || ((decide (p0.C_ > 15)) || (if (!r4) = true then ((p0.A_ != 0) || (if (!r5) = true then ((p0.B_ != 0) || ((!r6) && (p0.C_ != 0))) else ((!r6) && (p0.C_ != 0)))) else (if (!r5) = true then ((p0.B_ != 0) || ((!r6) && (p0.C_ != 0))) else ((!r6) && (p0.C_ != 0)))))))))) by simp [h8, h9, h10])) ?_
  exact o_end (by kernel_rfl) (by kernel_rfl)
  refine o_eq (congrArg (fun q => (⟨[E1, E3, E7, E8, E9, E12, E13, E56, E57, E58, E59, E60, E61, E62, E63, E64, (31, .one .top (.bool q)), (32, .one .top (.bool q)), (33, .one .top (.bool q))], [B2], H⟩ : St)) h10) ?_
  refine o_run 5 ⟨[E1, E3, E7, E8, E9, E12, E13, E56, E57, E58, E59, E60, E61, E62, E63, E64, E65, E66, E67, E68, E69, (36, .one .top (.bool (decide (p0.B_ > 15)))), (37, .one .top (.bool (decide (p0.B_ > 15)))), (38, .one .top (.bool (decide (p0.B_ > 15))))], [B2], H⟩ (by kernel_rfl) (by kernel_rfl) ?_
  rcases bool_cases (decide (p0.B_ > 15)) with h11 | h11
  refine o_eq (congrArg (fun q => (⟨[E1, E3, E7, E8, E9, E12, E13, E56, E57, E58, E59, E60, E61, E62, E63, E64, E65, E66, E67, E68, E69, (36, .one .top (.bool q)), (37, .one .top (.bool q)), (38, .one .top (.bool q))], [B2], H⟩ : St)) h11) ?_
  refine o_run 36 ⟨[E1, E3, E7, E8, E9, E12, E13, E56, E57, E58, E59, E60, E61, E62, E63, E64, E65, E66, E67, E68, E69, (36, .one .top (.bool true)), E18, E19, E20, E21, E22, E23, E24, E25, E26, E27, E28, E29, E30, E31, E32, E33, E34, E35, E36, E37, E38, E39, E40, E41, E42, E43, E44, E45, E46, E47, E48, E49, E50, E51, E52, E53, E54, E55], [B2], H⟩ (by kernel_rfl) (by kernel_rfl) ?_
  refine o_eq2 (congrArg (fun q0 => (⟨[E1, E3, (74, .one .top (.bool q0))], [B2], H⟩ : St)) (show true = ((decide (p0.A_ < 0)) || ((decide (p0.A_ > 15)) || ((decide (p0.B_ < 0)) || ((decide (p0.B_ > 15)) || ((decide (p0.C_ < 0)) || ((decide (p0.C_ > 15)) || (if (!r4) = true then ((p0.A_ != 0) || (if (!r5) = true then ((p0.B_ != 0) || ((!r6) && (p0.C_ != 0))) else ((!r6) && (p0.C_ != 0)))) else (if (!r5) = true then ((p0.B_ != 0) || ((!r6) && (p0.C_ != 0))) else ((!r6) && (p0.C_ != 0)))))))))) by simp [h8, h9, h10, h11])) ?_
  exact o_end (by kernel_rfl) (by kernel_rfl)
  refine o_eq (congrArg (fun q => (⟨[E1, E3, E7, E8, E9, E12, E13, E56, E57, E58, E59, E60, E61, E62, E63, E64, E65, E66, E67, E68, E69, (36, .one .top (.bool q)), (37, .one .top (.bool q)), (38, .one .top (.bool q))], [B2], H⟩ : St)) h11) ?_
  refine o_run 5 ⟨[E1, E3, E7, E8, E9, E12, E13, E56, E57, E58, E59, E60, E61, E62, E63, E64, E65, E66, E67, E68, E69, E70, E71, E72, E73, E74, (41, .one .top (.bool (decide (p0.C_ < 0)))), (42, .one .top (.bool (decide (p0.C_ < 0)))), (43, .one .top (.bool (decide (p0.C_ < 0))))], [B2], H⟩ (by kernel_rfl) (by kernel_rfl) ?_
  rcases bool_cases (decide (p0.C_ < 0)) with h12 | h12
  refine o_eq (congrArg (fun q => (⟨[E1, E3, E7, E8, E9, E12, E13, E56, E57, E58, E59, E60, E61, E62, E63, E64, E65, E66, E67, E68, E69, E70, E71, E72, E73, E74, (41, .one .top (.bool q)), (42, .one .top (.bool q)), (43, .one .top (.bool q))], [B2], H⟩ : St)) h12) ?_
  refine o_run 31 ⟨[E1, E3, E7, E8, E9, E12, E13, E56, E57, E58, E59, E60, E61, E62, E63, E64, E65, E66, E67, E68, E69, E70, E71, E72, E73, E74, (41, .one .top (.bool true)), E23, E24, E25, E26, E27, E28, E29, E30, E31, E32, E33, E34, E35, E36, E37, E38, E39, E40, E41, E42, E43, E44, E45, E46, E47, E48, E49, E50, E51, E52, E53, E54, E55], [B2], H⟩ (by kernel_rfl) (by kernel_rfl) ?_
  refine o_eq2 (congrArg (fun q0 => (⟨[E1, E3, (74, .one .top (.bool q0))], [B2], H⟩ : St)) (show true = ((decide (p0.A_ < 0)) || ((decide (p0.A_ > 15)) || ((decide (p0.B_ < 0)) || ((decide (p0.B_ > 15)) || ((decide (p0.C_ < 0)) || ((decide (p0.C_ > 15)) || (if (!r4) = true then ((p0.A_ != 0) || (if (!r5) = true then ((p0.B_ != 0) || ((!r6) && (p0.C_ != 0))) else ((!r6) && (p0.C_ != 0)))) else (if (!r5) = true then ((p0.B_ != 0) || ((!r6) && (p0.C_ != 0))) else ((!r6) && (p0.C_ != 0)))))))))) by simp [h8, h9, h10, h11, h12])) ?_
  exact o_end (by kernel_rfl) (by kernel_rfl)
  refine o_eq (congrArg (fun q => (⟨[E1, E3, E7, E8, E9, E12, E13, E56, E57, E58, E59, E60, E61, E62, E63, E64, E65, E66, E67, E68, E69, E70, E71, E72, E73, E74, (41, .one .top (.bool q)), (42, .one .top (.bool q)), (43, .one .top (.bool q))], [B2], H⟩ : St)) h12) ?_
  refine o_run 5 ⟨[E1, E3, E7, E8, E9, E12, E13, E56, E57, E58, E59, E60, E61, E62, E63, E64, E65, E66, E67, E68, E69, E70, E71, E72, E73, E74, E75, E76, E77, E78, E79, (46, .one .top (.bool (decide (p0.C_ > 15)))), (47, .one .top (.bool (decide (p0.C_ > 15)))), (48, .one .top (.bool (decide (p0.C_ > 15))))], [B2], H⟩ (by kernel_rfl) (by kernel_rfl) ?_
  rcases bool_cases (decide (p0.C_ > 15)) with h13 | h13
  refine o_eq (congrArg (fun q => (⟨[E1, E3, E7, E8, E9, E12, E13, E56, E57, E58, E59, E60, E61, E62, E63, E64, E65, E66, E67, E68, E69, E70, E71, E72, E73, E74, E75, E76, E77, E78, E79, (46, .one .top (.bool q)), (47, .one .top (.bool q)), (48, .one .top (.bool q))], [B2], H⟩ : St)) h13) ?_
  refine o_run 26 ⟨[E1, E3, E7, E8, E9, E12, E13, E56, E57, E58, E59, E60, E61, E62, E63, E64, E65, E66, E67, E68, E69, E70, E71, E72, E73, E74, E75, E76, E77, E78, E79, (46, .one .top (.bool true)), E28, E29, E30, E31, E32, E33, E34, E35, E36, E37, E38, E39, E40, E41, E42, E43, E44, E45, E46, E47, E48, E49, E50, E51, E52, E53, E54, E55], [B2], H⟩ (by kernel_rfl) (by kernel_rfl) ?_
  refine o_eq2 (congrArg (fun q0 => (⟨[E1, E3, (74, .one .top (.bool q0))], [B2], H⟩ : St)) (show true = ((decide (p0.A_ < 0)) || ((decide (p0.A_ > 15)) || ((decide (p0.B_ < 0)) || ((decide (p0.B_ > 15)) || ((decide (p0.C_ < 0)) || ((decide (p0.C_ > 15)) || (if (!r4) = true then ((p0.A_ != 0) || (if (!r5) = true then ((p0.B_ != 0) || ((!r6) && (p0.C_ != 0))) else ((!r6) && (p0.C_ != 0)))) else (if (!r5) = true then ((p0.B_ != 0) || ((!r6) && (p0.C_ != 0))) else ((!r6) && (p0.C_ != 0)))))))))) by simp [h8, h9, h10, h11, h12, h13])) ?_
  exact o_end (by kernel_rfl) (by kernel_rfl)
  refine o_eq (congrArg (fun q => (⟨[E1, E3, E7, E8, E9, E12, E13, E56, E57, E58, E59, E60, E61, E62, E63, E64, E65, E66, E67, E68, E69, E70, E71, E72, E73, E74, E75, E76, E77, E78, E79, (46, .one .top (.bool q)), (47, .one .top (.bool q)), (48, .one .top (.bool q))], [B2], H⟩ : St)) h13) ?_
  refine o_run 3 ⟨[E1, E3, E7, E8, E9, E12, E13, E56, E57, E58, E59, E60, E61, E62, E63, E64, E65, E66, E67, E68, E69, E70, E71, E72, E73, E74, E75, E76, E77, E78, E79, E80, E81, E82, E83, (50, .one .top (.bool (!r4))), (51, .one .top (.bool (!r4)))], [B2], H⟩ (by kernel_rfl) (by kernel_rfl) ?_
  rcases bool_cases (!r4) with h14 | h14
  refine o_eq (congrArg (fun q => (⟨[E1, E3, E7, E8, E9, E12, E13, E56, E57, E58, E59, E60, E61, E62, E63, E64, E65, E66, E67, E68, E69, E70, E71, E72, E73, E74, E75, E76, E77, E78, E79, E80, E81, E82, E83, (50, .one .top (.bool q)), (51, .one .top (.bool q))], [B2], H⟩ : St)) h14) ?_
  refine o_run 6 ⟨[E1, E3, E7, E8, E9, E12, E13, E56, E57, E58, E59, E60, E61, E62, E63, E64, E65, E66, E67, E68, E69, E70, E71, E72, E73, E74, E75, E76, E77, E78, E79, E80, E81, E82, E83, E84, E85, E86, E87, (54, .one .top (.bool (p0.A_ != 0))), (55, .one .top (.bool (p0.A_ != 0))), (56, .one .top (.bool (p0.A_ != 0))), (57, .one .top (.bool (p0.A_ != 0)))], [B2], H⟩ (by kernel_rfl) (by kernel_rfl) ?_
  rcases bool_cases (p0.A_ != 0) with h15 | h15
  refine o_eq (congrArg (fun q => (⟨[E1, E3, E7, E8, E9, E12, E13, E56, E57, E58, E59, E60, E61, E62, E63, E64, E65, E66, E67, E68, E69, E70, E71, E72, E73, E74, E75, E76, E77, E78, E79, E80, E81, E82, E83, E84, E85, E86, E87, (54, .one .top (.bool q)), (55, .one .top (.bool q)), (56, .one .top (.bool q)), (57, .one .top (.bool q))], [B2], H⟩ : St)) h15) ?_
  refine o_run 17 ⟨[E1, E3, E7, E8, E9, E12, E13, E56, E57, E58, E59, E60, E61, E62, E63, E64, E65, E66, E67, E68, E69, E70, E71, E72, E73, E74, E75, E76, E77, E78, E79, E80, E81, E82, E83, E84, E85, E86, E87, (54, .one .top (.bool true)), (55, .one .top (.bool true)), E37, E38, E39, E40, E41, E42, E43, E44, E45, E46, E47, E48, E49, E50, E51, E52, E53, E54, E55], [B2], H⟩ (by kernel_rfl) (by kernel_rfl) ?_
  refine o_eq2 (congrArg (fun q0 => (⟨[E1, E3, (74, .one .top (.bool q0))], [B2], H⟩ : St)) (show true = ((decide (p0.A_ < 0)) || ((decide (p0.A_ > 15)) || ((decide (p0.B_ < 0)) || ((decide (p0.B_ > 15)) || ((decide (p0.C_ < 0)) || ((decide (p0.C_ > 15)) || (if (!r4) = true then ((p0.A_ != 0) || (if (!r5) = true then ((p0.B_ != 0) || ((!r6) && (p0.C_ != 0))) else ((!r6) && (p0.C_ != 0)))) else (if (!r5) = true then ((p0.B_ != 0) || ((!r6) && (p0.C_ != 0))) else ((!r6) && (p0.C_ != 0)))))))))) by simp [h8, h9, h10, h11, h12, h13, h14, h15])) ?_
  exact o_end (by kernel_rfl) (by kernel_rfl)
  refine o_eq (congrArg (fun q => (⟨[E1, E3, E7, E8, E9, E12, E13, E56, E57, E58, E59, E60, E61, E62, E63, E64, E65, E66, E67, E68, E69, E70, E71, E72, E73, E74, E75, E76, E77, E78, E79, E80, E81, E82, E83, E84, E85, E86, E87, (54, .one .top (.bool q)), (55, .one .top (.bool q)), (56, .one .top (.bool q)), (57, .one .top (.bool q))], [B2], H⟩ : St)) h15) ?_
  refine o_run 3 ⟨[E1, E3, E7, E8, E9, E12, E13, E56, E57, E58, E59, E60, E61, E62, E63, E64, E65, E66, E67, E68, E69, E70, E71, E72, E73, E74, E75, E76, E77, E78, E79, E80, E81, E82, E83, E84, E85, E86, E87, E88, E89, E90, E91, E92, E93, E94], [B2], H⟩ (by kernel_rfl) (by kernel_rfl) ?_
  rcases bool_cases (!r5) with h16 | h16
  refine o_eq (congrArg (fun q => (⟨[E1, E3, E7, E8, E9, E12, E13, E56, E57, E58, E59, E60, E61, E62, E63, E64, E65, E66, E67, E68, E69, E70, E71, E72, E73, E74, E75, E76, E77, E78, E79, E80, E81, E82, E83, E84, E85, E86, E87, E88, E89, E90, E91, E92, (59, .one .top (.bool q)), (60, .one .top (.bool q))], [B2], H⟩ : St)) h16) ?_
  refine o_run 6 ⟨[E1, E3, E7, E8, E9, E12, E13, E56, E57, E58, E59, E60, E61, E62, E63, E64, E65, E66, E67, E68, E69, E70, E71, E72, E73, E74, E75, E76, E77, E78, E79, E80, E81, E82, E83, E84, E85, E86, E87, E88, E89, E90, E91, E92, E95, E96, E97, E98, E99, E100, E101, E102], [B2], H⟩ (by kernel_rfl) (by kernel_rfl) ?_
  rcases bool_cases (p0.B_ != 0) with h17 | h17
  refine o_eq (congrArg (fun q => (⟨[E1, E3, E7, E8, E9, E12, E13, E56, E57, E58, E59, E60, E61, E62, E63, E64, E65, E66, E67, E68, E69, E70, E71, E72, E73, E74, E75, E76, E77, E78, E79, E80, E81, E82, E83, E84, E85, E86, E87, E88, E89, E90, E91, E92, E95, E96, E97, E98, (63, .one .top (.bool q)), (64, .one .top (.bool q)), (65, .one .top (.bool q)), (66, .one .top (.bool q))], [B2], H⟩ : St)) h17) ?_
  refine o_run 8 ⟨[E1, E3, E7, E8, E9, E12, E13, E56, E57, E58, E59, E60, E61, E62, E63, E64, E65, E66, E67, E68, E69, E70, E71, E72, E73, E74, E75, E76, E77, E78, E79, E80, E81, E82, E83, E84, E85, E86, E87, E88, E89, E90, E91, E92, E95, E96, E97, E98, E103, E104, E46, E47, E48, E49, E50, E51, E52, E53, E54, E55], [B2], H⟩ (by kernel_rfl) (by kernel_rfl) ?_
  refine o_eq2 (congrArg (fun q0 => (⟨[E1, E3, (74, .one .top (.bool q0))], [B2], H⟩ : St)) (show true = ((decide (p0.A_ < 0)) || ((decide (p0.A_ > 15)) || ((decide (p0.B_ < 0)) || ((decide (p0.B_ > 15)) || ((decide (p0.C_ < 0)) || ((decide (p0.C_ > 15)) || (if (!r4) = true then ((p0.A_ != 0) || (if (!r5) = true then ((p0.B_ != 0) || ((!r6) && (p0.C_ != 0))) else ((!r6) && (p0.C_ != 0)))) else (if (!r5) = true then ((p0.B_ != 0) || ((!r6) && (p0.C_ != 0))) else ((!r6) && (p0.C_ != 0)))))))))) by simp [h8, h9, h10, h11, h12, h13, h14, h15, h16, h17])) ?_
  exact o_end (by kernel_rfl) (by kernel_rfl)
  refine o_eq (congrArg (fun q => (⟨[E1, E3, E7, E8, E9, E12, E13, E56, E57, E58, E59, E60, E61, E62, E63, E64, E65, E66, E67, E68, E69, E70, E71, E72, E73, E74, E75, E76, E77, E78, E79, E80, E81, E82, E83, E84, E85, E86, E87, E88, E89, E90, E91, E92, E95, E96, E97, E98, (63, .one .top (.bool q)), (64, .one .top (.bool q)), (65, .one .top (.bool q)), (66, .one .top (.bool q))], [B2], H⟩ : St)) h17) ?_
  refine o_run 3 ⟨[E1, E3, E7, E8, E9, E12, E13, E56, E57, E58, E59, E60, E61, E62, E63, E64, E65, E66, E67, E68, E69, E70, E71, E72, E73, E74, E75, E76, E77, E78, E79, E80, E81, E82, E83, E84, E85, E86, E87, E88, E89, E90, E91, E92, E95, E96, E97, E98, E105, E106, E107, E108, E109, E110, E111], [B2], H⟩ (by kernel_rfl) (by kernel_rfl) ?_
  rcases bool_cases (!r6) with h18 | h18
  refine o_eq (congrArg (fun q => (⟨[E1, E3, E7, E8, E9, E12, E13, E56, E57, E58, E59, E60, E61, E62, E63, E64, E65, E66, E67, E68, E69, E70, E71, E72, E73, E74, E75, E76, E77, E78, E79, E80, E81, E82, E83, E84, E85, E86, E87, E88, E89, E90, E91, E92, E95, E96, E97, E98, E105, E106, E107, E108, E109, (68, .one .top (.bool q)), (69, .one .top (.bool q))], [B2], H⟩ : St)) h18) ?_
  refine o_run 5 ⟨[E1, E3, E7, E8, E9, E12, E13, E56, E57, E58, E59, E60, E61, E62, E63, E64, E65, E66, E67, E68, E69, E70, E71, E72, E73, E74, E75, E76, E77, E78, E79, E80, E81, E82, E83, E84, E85, E86, E87, E88, E89, E90, E91, E92, E95, E96, E97, E98, E105, E106, E107, E108, E109, E112, E113, E114, E115, E116, E117, E118], [B2], H⟩ (by kernel_rfl) (by kernel_rfl) ?_
  refine o_eq2 (congrArg (fun q0 => (⟨[E1, E3, (74, .one .top (.bool q0))], [B2], H⟩ : St)) (show (p0.C_ != 0) = ((decide (p0.A_ < 0)) || ((decide (p0.A_ > 15)) || ((decide (p0.B_ < 0)) || ((decide (p0.B_ > 15)) || ((decide (p0.C_ < 0)) || ((decide (p0.C_ > 15)) || (if (!r4) = true then ((p0.A_ != 0) || (if (!r5) = true then ((p0.B_ != 0) || ((!r6) && (p0.C_ != 0))) else ((!r6) && (p0.C_ != 0)))) else (if (!r5) = true then ((p0.B_ != 0) || ((!r6) && (p0.C_ != 0))) else ((!r6) && (p0.C_ != 0)))))))))) by simp [h8, h9, h10, h11, h12, h13, h14, h15, h16, h17, h18])) ?_
  exact o_end (by kernel_rfl) (by kernel_rfl)
  refine o_eq (congrArg (fun q => (⟨[E1, E3, E7, E8, E9, E12, E13, E56, E57, E58, E59, E60, E61, E62, E63, E64, E65, E66, E67, E68, E69, E70, E71, E72, E73, E74, E75, E76, E77, E78, E79, E80, E81, E82, E83, E84, E85, E86, E87, E88, E89, E90, E91, E92, E95, E96, E97, E98, E105, E106, E107, E108, E109, (68, .one .top (.bool q)), (69, .one .top (.bool q))], [B2], H⟩ : St)) h18) ?_
  refine o_run 5 ⟨[E1, E3, E7, E8, E9, E12, E13, E56, E57, E58, E59, E60, E61, E62, E63, E64, E65, E66, E67, E68, E69, E70, E71, E72, E73, E74, E75, E76, E77, E78, E79, E80, E81, E82, E83, E84, E85, E86, E87, E88, E89, E90, E91, E92, E95, E96, E97, E98, E105, E106, E107, E108, E109, E119, E120, E51, E52, E53, E121, E122], [B2], H⟩ (by kernel_rfl) (by kernel_rfl) ?_
  refine o_eq2 (congrArg (fun q0 => (⟨[E1, E3, (74, .one .top (.bool q0))], [B2], H⟩ : St)) (show false = ((decide (p0.A_ < 0)) || ((decide (p0.A_ > 15)) || ((decide (p0.B_ < 0)) || ((decide (p0.B_ > 15)) || ((decide (p0.C_ < 0)) || ((decide (p0.C_ > 15)) || (if (!r4) = true then ((p0.A_ != 0) || (if (!r5) = true then ((p0.B_ != 0) || ((!r6) && (p0.C_ != 0))) else ((!r6) && (p0.C_ != 0)))) else (if (!r5) = true then ((p0.B_ != 0) || ((!r6) && (p0.C_ != 0))) else ((!r6) && (p0.C_ != 0)))))))))) by simp [h8, h9, h10, h11, h12, h13, h14, h15, h16, h17, h18])) ?_
  exact o_end (by kernel_rfl) (by kernel_rfl)
  refine o_eq (congrArg (fun q => (⟨[E1, E3, E7, E8, E9, E12, E13, E56, E57, E58, E59, E60, E61, E62, E63, E64, E65, E66, E67, E68, E69, E70, E71, E72, E73, E74, E75, E76, E77, E78, E79, E80, E81, E82, E83, E84, E85, E86, E87, E88, E89, E90, E91, E92, (59, .one .top (.bool q)), (60, .one .top (.bool q))], [B2], H⟩ : St)) h16) ?_
  refine o_run 9 ⟨[E1, E3, E7, E8, E9, E12, E13, E56, E57, E58, E59, E60, E61, E62, E63, E64, E65, E66, E67, E68, E69, E70, E71, E72, E73, E74, E75, E76, E77, E78, E79, E80, E81, E82, E83, E84, E85, E86, E87, E88, E89, E90, E91, E92, E123, E124, E42, E43, E44, E106, E107, E108, E109, E110, E111], [B2], H⟩ (by kernel_rfl) (by kernel_rfl) ?_
  rcases bool_cases (!r6) with h19 | h19
  refine o_eq (congrArg (fun q => (⟨[E1, E3, E7, E8, E9, E12, E13, E56, E57, E58, E59, E60, E61, E62, E63, E64, E65, E66, E67, E68, E69, E70, E71, E72, E73, E74, E75, E76, E77, E78, E79, E80, E81, E82, E83, E84, E85, E86, E87, E88, E89, E90, E91, E92, E123, E124, E42, E43, E44, E106, E107, E108, E109, (68, .one .top (.bool q)), (69, .one .top (.bool q))], [B2], H⟩ : St)) h19) ?_
  refine o_run 5 ⟨[E1, E3, E7, E8, E9, E12, E13, E56, E57, E58, E59, E60, E61, E62, E63, E64, E65, E66, E67, E68, E69, E70, E71, E72, E73, E74, E75, E76, E77, E78, E79, E80, E81, E82, E83, E84, E85, E86, E87, E88, E89, E90, E91, E92, E123, E124, E42, E43, E44, E106, E107, E108, E109, E112, E113, E114, E115, E116, E117, E118], [B2], H⟩ (by kernel_rfl) (by kernel_rfl) ?_
  refine o_eq2 (congrArg (fun q0 => (⟨[E1, E3, (74, .one .top (.bool q0))], [B2], H⟩ : St)) (show (p0.C_ != 0) = ((decide (p0.A_ < 0)) || ((decide (p0.A_ > 15)) || ((decide (p0.B_ < 0)) || ((decide (p0.B_ > 15)) || ((decide (p0.C_ < 0)) || ((decide (p0.C_ > 15)) || (if (!r4) = true then ((p0.A_ != 0) || (if (!r5) = true then ((p0.B_ != 0) || ((!r6) && (p0.C_ != 0))) else ((!r6) && (p0.C_ != 0)))) else (if (!r5) = true then ((p0.B_ != 0) || ((!r6) && (p0.C_ != 0))) else ((!r6) && (p0.C_ != 0)))))))))) by simp [h8, h9, h10, h11, h12, h13, h14, h15, h16, h19])) ?_
  exact o_end (by kernel_rfl) (by kernel_rfl)
  refine o_eq (congrArg (fun q => (⟨[E1, E3, E7, E8, E9, E12, E13, E56, E57, E58, E59, E60, E61, E62, E63, E64, E65, E66, E67, E68, E69, E70, E71, E72, E73, E74, E75, E76, E77, E78, E79, E80, E81, E82, E83, E84, E85, E86, E87, E88, E89, E90, E91, E92, E123, E124, E42, E43, E44, E106, E107, E108, E109, (68, .one .top (.bool q)), (69, .one .top (.bool q))], [B2], H⟩ : St)) h19) ?_
  refine o_run 5 ⟨[E1, E3, E7, E8, E9, E12, E13, E56, E57, E58, E59, E60, E61, E62, E63, E64, E65, E66, E67, E68, E69, E70, E71, E72, E73, E74, E75, E76, E77, E78, E79, E80, E81, E82, E83, E84, E85, E86, E87, E88, E89, E90, E91, E92, E123, E124, E42, E43, E44, E106, E107, E108, E109, E119, E120, E51, E52, E53, E121, E122], [B2], H⟩ (by kernel_rfl) (by kernel_rfl) ?_
  refine o_eq2 (congrArg (fun q0 => (⟨[E1, E3, (74, .one .top (.bool q0))], [B2], H⟩ : St)) (show false = ((decide (p0.A_ < 0)) || ((decide (p0.A_ > 15)) || ((decide (p0.B_ < 0)) || ((decide (p0.B_ > 15)) || ((decide (p0.C_ < 0)) || ((decide (p0.C_ > 15)) || (if (!r4) = true then ((p0.A_ != 0) || (if (!r5) = true then ((p0.B_ != 0) || ((!r6) && (p0.C_ != 0))) else ((!r6) && (p0.C_ != 0)))) else (if (!r5) = true then ((p0.B_ != 0) || ((!r6) && (p0.C_ != 0))) else ((!r6) && (p0.C_ != 0)))))))))) by simp [h8, h9, h10, h11, h12, h13, h14, h15, h16, h19])) ?_
  exact o_end (by kernel_rfl) (by kernel_rfl)
  refine o_eq (congrArg (fun q => (⟨[E1, E3, E7, E8, E9, E12, E13, E56, E57, E58, E59, E60, E61, E62, E63, E64, E65, E66, E67, E68, E69, E70, E71, E72, E73, E74, E75, E76, E77, E78, E79, E80, E81, E82, E83, (50, .one .top (.bool q)), (51, .one .top (.bool q))], [B2], H⟩ : St)) h14) ?_
  refine o_run 9 ⟨[E1, E3, E7, E8, E9, E12, E13, E56, E57, E58, E59, E60, E61, E62, E63, E64, E65, E66, E67, E68, E69, E70, E71, E72, E73, E74, E75, E76, E77, E78, E79, E80, E81, E82, E83, E125, E126, E33, E34, E35, E89, E90, E91, E92, E93, E94], [B2], H⟩ (by kernel_rfl) (by kernel_rfl) ?_
  rcases bool_cases (!r5) with h20 | h20
  refine o_eq (congrArg (fun q => (⟨[E1, E3, E7, E8, E9, E12, E13, E56, E57, E58, E59, E60, E61, E62, E63, E64, E65, E66, E67, E68, E69, E70, E71, E72, E73, E74, E75, E76, E77, E78, E79, E80, E81, E82, E83, E125, E126, E33, E34, E35, E89, E90, E91, E92, (59, .one .top (.bool q)), (60, .one .top (.bool q))], [B2], H⟩ : St)) h20) ?_
  refine o_run 6 ⟨[E1, E3, E7, E8, E9, E12, E13, E56, E57, E58, E59, E60, E61, E62, E63, E64, E65, E66, E67, E68, E69, E70, E71, E72, E73, E74, E75, E76, E77, E78, E79, E80, E81, E82, E83, E125, E126, E33, E34, E35, E89, E90, E91, E92, E95, E96, E97, E98, E99, E100, E101, E102], [B2], H⟩ (by kernel_rfl) (by kernel_rfl) ?_
  rcases bool_cases (p0.B_ != 0) with h21 | h21
  refine o_eq (congrArg (fun q => (⟨[E1, E3, E7, E8, E9, E12, E13, E56, E57, E58, E59, E60, E61, E62, E63, E64, E65, E66, E67, E68, E69, E70, E71, E72, E73, E74, E75, E76, E77, E78, E79, E80, E81, E82, E83, E125, E126, E33, E34, E35, E89, E90, E91, E92, E95, E96, E97, E98, (63, .one .top (.bool q)), (64, .one .top (.bool q)), (65, .one .top (.bool q)), (66, .one .top (.bool q))], [B2], H⟩ : St)) h21) ?_
  refine o_run 8 ⟨[E1, E3, E7, E8, E9, E12, E13, E56, E57, E58, E59, E60, E61, E62, E63, E64, E65, E66, E67, E68, E69, E70, E71, E72, E73, E74, E75, E76, E77, E78, E79, E80, E81, E82, E83, E125, E126, E33, E34, E35, E89, E90, E91, E92, E95, E96, E97, E98, E103, E104, E46, E47, E48, E49, E50, E51, E52, E53, E54, E55], [B2], H⟩ (by kernel_rfl) (by kernel_rfl) ?_
  refine o_eq2 (congrArg (fun q0 => (⟨[E1, E3, (74, .one .top (.bool q0))], [B2], H⟩ : St)) (show true = ((decide (p0.A_ < 0)) || ((decide (p0.A_ > 15)) || ((decide (p0.B_ < 0)) || ((decide (p0.B_ > 15)) || ((decide (p0.C_ < 0)) || ((decide (p0.C_ > 15)) || (if (!r4) = true then ((p0.A_ != 0) || (if (!r5) = true then ((p0.B_ != 0) || ((!r6) && (p0.C_ != 0))) else ((!r6) && (p0.C_ != 0)))) else (if (!r5) = true then ((p0.B_ != 0) || ((!r6) && (p0.C_ != 0))) else ((!r6) && (p0.C_ != 0)))))))))) by simp [h8, h9, h10, h11, h12, h13, h14, h20, h21])) ?_
  exact o_end (by kernel_rfl) (by kernel_rfl)
  refine o_eq (congrArg (fun q => (⟨[E1, E3, E7, E8, E9, E12, E13, E56, E57, E58, E59, E60, E61, E62, E63, E64, E65, E66, E67, E68, E69, E70, E71, E72, E73, E74, E75, E76, E77, E78, E79, E80, E81, E82, E83, E125, E126, E33, E34, E35, E89, E90, E91, E92, E95, E96, E97, E98, (63, .one .top (.bool q)), (64, .one .top (.bool q)), (65, .one .top (.bool q)), (66, .one .top (.bool q))], [B2], H⟩ : St)) h21) ?_
  refine o_run 3 ⟨[E1, E3, E7, E8, E9, E12, E13, E56, E57, E58, E59, E60, E61, E62, E63, E64, E65, E66, E67, E68, E69, E70, E71, E72, E73, E74, E75, E76, E77, E78, E79, E80, E81, E82, E83, E125, E126, E33, E34, E35, E89, E90, E91, E92, E95, E96, E97, E98, E105, E106, E107, E108, E109, E110, E111], [B2], H⟩ (by kernel_rfl) (by kernel_rfl) ?_
  rcases bool_cases (!r6) with h22 | h22
  refine o_eq (congrArg (fun q => (⟨[E1, E3, E7, E8, E9, E12, E13, E56, E57, E58, E59, E60, E61, E62, E63, E64, E65, E66, E67, E68, E69, E70, E71, E72, E73, E74, E75, E76, E77, E78, E79, E80, E81, E82, E83, E125, E126, E33, E34, E35, E89, E90, E91, E92, E95, E96, E97, E98, E105, E106, E107, E108, E109, (68, .one .top (.bool q)), (69, .one .top (.bool q))], [B2], H⟩ : St)) h22) ?_
  refine o_run 5 ⟨[E1, E3, E7, E8, E9, E12, E13, E56, E57, E58, E59, E60, E61, E62, E63, E64, E65, E66, E67, E68, E69, E70, E71, E72, E73, E74, E75, E76, E77, E78, E79, E80, E81, E82, E83, E125, E126, E33, E34, E35, E89, E90, E91, E92, E95, E96, E97, E98, E105, E106, E107, E108, E109, E112, E113, E114, E115, E116, E117, E118], [B2], H⟩ (by kernel_rfl) (by kernel_rfl) ?_
  refine o_eq2 (congrArg (fun q0 => (⟨[E1, E3, (74, .one .top (.bool q0))], [B2], H⟩ : St)) (show (p0.C_ != 0) = ((decide (p0.A_ < 0)) || ((decide (p0.A_ > 15)) || ((decide (p0.B_ < 0)) || ((decide (p0.B_ > 15)) || ((decide (p0.C_ < 0)) || ((decide (p0.C_ > 15)) || (if (!r4) = true then ((p0.A_ != 0) || (if (!r5) = true then ((p0.B_ != 0) || ((!r6) && (p0.C_ != 0))) else ((!r6) && (p0.C_ != 0)))) else (if (!r5) = true then ((p0.B_ != 0) || ((!r6) && (p0.C_ != 0))) else ((!r6) && (p0.C_ != 0)))))))))) by simp [h8, h9, h10, h11, h12, h13, h14, h20, h21, h22])) ?_
  exact o_end (by kernel_rfl) (by kernel_rfl)
  refine o_eq (congrArg (fun q => (⟨[E1, E3, E7, E8, E9, E12, E13, E56, E57, E58, E59, E60, E61, E62, E63, E64, E65, E66, E67, E68, E69, E70, E71, E72, E73, E74, E75, E76, E77, E78, E79, E80, E81, E82, E83, E125, E126, E33, E34, E35, E89, E90, E91, E92, E95, E96, E97, E98, E105, E106, E107, E108, E109, (68, .one .top (.bool q)), (69, .one .top (.bool q))], [B2], H⟩ : St)) h22) ?_
  refine o_run 5 ⟨[E1, E3, E7, E8, E9, E12, E13, E56, E57, E58, E59, E60, E61, E62, E63, E64, E65, E66, E67, E68, E69, E70, E71, E72, E73, E74, E75, E76, E77, E78, E79, E80, E81, E82, E83, E125, E126, E33, E34, E35, E89, E90, E91, E92, E95, E96, E97, E98, E105, E106, E107, E108, E109, E119, E120, E51, E52, E53, E121, E122], [B2], H⟩ (by kernel_rfl) (by kernel_rfl) ?_
  refine o_eq2 (congrArg (fun q0 => (⟨[E1, E3, (74, .one .top (.bool q0))], [B2], H⟩ : St)) (show false = ((decide (p0.A_ < 0)) || ((decide (p0.A_ > 15)) || ((decide (p0.B_ < 0)) || ((decide (p0.B_ > 15)) || ((decide (p0.C_ < 0)) || ((decide (p0.C_ > 15)) || (if (!r4) = true then ((p0.A_ != 0) || (if (!r5) = true then ((p0.B_ != 0) || ((!r6) && (p0.C_ != 0))) else ((!r6) && (p0.C_ != 0)))) else (if (!r5) = true then ((p0.B_ != 0) || ((!r6) && (p0.C_ != 0))) else ((!r6) && (p0.C_ != 0)))))))))) by simp [h8, h9, h10, h11, h12, h13, h14, h20, h21, h22])) ?_
  exact o_end (by kernel_rfl) (by kernel_rfl)
  refine o_eq (congrArg (fun q => (⟨[E1, E3, E7, E8, E9, E12, E13, E56, E57, E58, E59, E60, E61, E62, E63, E64, E65, E66, E67, E68, E69, E70, E71, E72, E73, E74, E75, E76, E77, E78, E79, E80, E81, E82, E83, E125, E126, E33, E34, E35, E89, E90, E91, E92, (59, .one .top (.bool q)), (60, .one .top (.bool q))], [B2], H⟩ : St)) h20) ?_
  refine o_run 9 ⟨[E1, E3, E7, E8, E9, E12, E13, E56, E57, E58, E59, E60, E61, E62, E63, E64, E65, E66, E67, E68, E69, E70, E71, E72, E73, E74, E75, E76, E77, E78, E79, E80, E81, E82, E83, E125, E126, E33, E34, E35, E89, E90, E91, E92, E123, E124, E42, E43, E44, E106, E107, E108, E109, E110, E111], [B2], H⟩ (by kernel_rfl) (by kernel_rfl) ?_
  rcases bool_cases (!r6) with h23 | h23
  refine o_eq (congrArg (fun q => (⟨[E1, E3, E7, E8, E9, E12, E13, E56, E57, E58, E59, E60, E61, E62, E63, E64, E65, E66, E67, E68, E69, E70, E71, E72, E73, E74, E75, E76, E77, E78, E79, E80, E81, E82, E83, E125, E126, E33, E34, E35, E89, E90, E91, E92, E123, E124, E42, E43, E44, E106, E107, E108, E109, (68, .one .top (.bool q)), (69, .one .top (.bool q))], [B2], H⟩ : St)) h23) ?_
  refine o_run 5 ⟨[E1, E3, E7, E8, E9, E12, E13, E56, E57, E58, E59, E60, E61, E62, E63, E64, E65, E66, E67, E68, E69, E70, E71, E72, E73, E74, E75, E76, E77, E78, E79, E80, E81, E82, E83, E125, E126, E33, E34, E35, E89, E90, E91, E92, E123, E124, E42, E43, E44, E106, E107, E108, E109, E112, E113, E114, E115, E116, E117, E118], [B2], H⟩ (by kernel_rfl) (by kernel_rfl) ?_
  refine o_eq2 (congrArg (fun q0 => (⟨[E1, E3, (74, .one .top (.bool q0))], [B2], H⟩ : St)) (show (p0.C_ != 0) = ((decide (p0.A_ < 0)) || ((decide (p0.A_ > 15)) || ((decide (p0.B_ < 0)) || ((decide (p0.B_ > 15)) || ((decide (p0.C_ < 0)) || ((decide (p0.C_ > 15)) || (if (!r4) = true then ((p0.A_ != 0) || (if (!r5) = true then ((p0.B_ != 0) || ((!r6) && (p0.C_ != 0))) else ((!r6) && (p0.C_ != 0)))) else (if (!r5) = true then ((p0.B_ != 0) || ((!r6) && (p0.C_ != 0))) else ((!r6) && (p0.C_ != 0)))))))))) by simp [h8, h9, h10, h11, h12, h13, h14, h20, h23])) ?_
  exact o_end (by kernel_rfl) (by kernel_rfl)
  refine o_eq (congrArg (fun q => (⟨[E1, E3, E7, E8, E9, E12, E13, E56, E57, E58, E59, E60, E61, E62, E63, E64, E65, E66, E67, E68, E69, E70, E71, E72, E73, E74, E75, E76, E77, E78, E79, E80, E81, E82, E83, E125, E126, E33, E34, E35, E89, E90, E91, E92, E123, E124, E42, E43, E44, E106, E107, E108, E109, (68, .one .top (.bool q)), (69, .one .top (.bool q))], [B2], H⟩ : St)) h23) ?_
  refine o_run 5 ⟨[E1, E3, E7, E8, E9, E12, E13, E56, E57, E58, E59, E60, E61, E62, E63, E64, E65, E66, E67, E68, E69, E70, E71, E72, E73, E74, E75, E76, E77, E78, E79, E80, E81, E82, E83, E125, E126, E33, E34, E35, E89, E90, E91, E92, E123, E124, E42, E43, E44, E106, E107, E108, E109, E119, E120, E51, E52, E53, E121, E122], [B2], H⟩ (by kernel_rfl) (by kernel_rfl) ?_
  refine o_eq2 (congrArg (fun q0 => (⟨[E1, E3, (74, .one .top (.bool q0))], [B2], H⟩ : St)) (show false = ((decide (p0.A_ < 0)) || ((decide (p0.A_ > 15)) || ((decide (p0.B_ < 0)) || ((decide (p0.B_ > 15)) || ((decide (p0.C_ < 0)) || ((decide (p0.C_ > 15)) || (if (!r4) = true then ((p0.A_ != 0) || (if (!r5) = true then ((p0.B_ != 0) || ((!r6) && (p0.C_ != 0))) else ((!r6) && (p0.C_ != 0)))) else (if (!r5) = true then ((p0.B_ != 0) || ((!r6) && (p0.C_ != 0))) else ((!r6) && (p0.C_ != 0)))))))))) by simp [h8, h9, h10, h11, h12, h13, h14, h20, h23])) ?_
  exact o_end (by kernel_rfl) (by kernel_rfl)
  rcases if_inv hF with ⟨h24, hF⟩ | ⟨h24, hF⟩
  refine w_cT (m := .top) h24 (s1 := S142) (by kernel_rfl) (by kernel_rfl) ?_
  refine w_seq ?_
  refine w_reg ⟨[E127], [], H⟩ (by kernel_rfl) ?_
  refine w_ret ?_
  obtain e0 := some1_inv hF
  subst e0
  exact fin_pure (v := .one .top (.int .i64 20)) (by kernel_rfl) (by kernel_rfl) rfl (by kernel_rfl)
  refine w_cF (m := .top) h24 (s1 := S140) (by kernel_rfl) (by kernel_rfl) ?_
  refine w_skip ?_
  refine w_seq ?_
  refine w_reg ⟨[E1, E3, E128, E129], [B2], H⟩ (by kernel_rfl) ?_
  refine w_seq ?_
  refine w_seq ?_
  refine w_reg S144 (by kernel_rfl) ?_
  refine w_block ?_
  refine w_seq ?_
  refine w_seq ?_
  refine w_reg S145 (by kernel_rfl) ?_
  refine w_join (α := (Bool)) (fun x => (⟨[E1, E128, E129, E130, (76, .one .top (.bool x))], [B2], H⟩ : St)) (fun x => ref02_Check_j1 p0 r1 x = some ra) ?_ ?_
  rintro j25 hF
  replace hF : ref02_Check_j1 p0 r1 j25 = some ra := hF
  unfold ref02_Check_j1 at hF
  refine w_join (α := (Int × Int)) (fun x => (⟨[E1, (7, .one .top (.int .i64 x.1)), (8, .one .top (.int .i64 x.2))], [B2], H⟩ : St)) (fun x => ref02_Check_j2 p0 x.1 x.2 = some ra) ?_ ?_
  rintro ⟨j26, j27⟩ hF
  replace hF : ref02_Check_j2 p0 j26 j27 = some ra := hF
  let E132 : EN := (7, .one .top (.int .i64 j26))
  let E133 : EN := (8, .one .top (.int .i64 j27))
  let E136 : EN := (87, .one .top (.int .i64 j26))
  unfold ref02_Check_j2 at hF
  refine w_seq ?_
  refine w_seq ?_
  refine w_regO ⟨[(94, .one .top (.bool ((decide (p0.Imm_ < j26)) || (decide (p0.Imm_ > j27)))))], [], H⟩ ?_ ?_
  refine o_run 5 ⟨[E1, E132, E133, E134, E135, E136, (88, .one .top (.bool (decide (p0.Imm_ < j26)))), (89, .one .top (.bool (decide (p0.Imm_ < j26))))], [B2], H⟩ (by kernel_rfl) (by kernel_rfl) ?_
  rcases bool_cases (decide (p0.Imm_ < j26)) with h28 | h28
  refine o_eq (congrArg (fun q => (⟨[E1, E132, E133, E134, E135, E136, (88, .one .top (.bool q)), (89, .one .top (.bool q))], [B2], H⟩ : St)) h28) ?_
  refine o_run 5 ⟨[E1, E132, E133, E134, E135, E136, (88, .one .top (.bool true)), (89, .one .top (.bool true)), (90, .tup []), (91, .tup []), (92, .tup []), (93, .tup []), (94, .one .top (.bool true))], [B2], H⟩ (by kernel_rfl) (by kernel_rfl) ?_
  refine o_eq2 (congrArg (fun q0 => (⟨[(94, .one .top (.bool q0))], [], H⟩ : St)) (show true = ((decide (p0.Imm_ < j26)) || (decide (p0.Imm_ > j27))) by simp [h28])) ?_
  exact o_end (by kernel_rfl) (by kernel_rfl)
  refine o_eq (congrArg (fun q => (⟨[E1, E132, E133, E134, E135, E136, (88, .one .top (.bool q)), (89, .one .top (.bool q))], [B2], H⟩ : St)) h28) ?_
  refine o_run 5 ⟨[E1, E132, E133, E134, E135, E136, (88, .one .top (.bool false)), (89, .one .top (.bool false)), (90, .one .top (.loc 1 4)), (91, .one .top (.int .i64 p0.Imm_)), (92, .one .top (.int .i64 j27)), (93, .one .top (.bool (decide (p0.Imm_ > j27)))), (94, .one .top (.bool (decide (p0.Imm_ > j27))))], [B2], H⟩ (by kernel_rfl) (by kernel_rfl) ?_
  refine o_eq2 (congrArg (fun q0 => (⟨[(94, .one .top (.bool q0))], [], H⟩ : St)) (show (decide (p0.Imm_ > j27)) = ((decide (p0.Imm_ < j26)) || (decide (p0.Imm_ > j27))) by simp [h28])) ?_
  exact o_end (by kernel_rfl) (by kernel_rfl)
  rcases if_inv hF with ⟨h29, hF⟩ | ⟨h29, hF⟩
  refine w_cT (m := .top) h29 (s1 := S142) (by kernel_rfl) (by kernel_rfl) ?_
  refine w_seq ?_
  refine w_reg ⟨[E127], [], H⟩ (by kernel_rfl) ?_
  refine w_ret ?_
  obtain e0 := some1_inv hF
  subst e0
  exact fin_pure (v := .one .top (.int .i64 20)) (by kernel_rfl) (by kernel_rfl) rfl (by kernel_rfl)
  refine w_cF (m := .top) h29 (s1 := S142) (by kernel_rfl) (by kernel_rfl) ?_
  refine w_skip ?_
  refine w_seq ?_
  refine w_reg ⟨[(2, .one .top (.int .i64 0))], [], H⟩ (by kernel_rfl) ?_
  refine w_ret ?_
  obtain e0 := some1_inv hF
  subst e0
  exact fin_pure (v := .one .top (.int .i64 0)) (by kernel_rfl) (by kernel_rfl) rfl (by kernel_rfl)
  rcases if_inv hF with ⟨h30, hF⟩ | ⟨h30, hF⟩
  refine w_cT (m := .top) h30 (s1 := S139) (by kernel_rfl) (by kernel_rfl) ?_
  refine w_reg ⟨[E1, (7, .one .top (.int .i64 (-32768))), (8, .one .top (.int .i64 32767))], [B2], H⟩ (by kernel_rfl) ?_
  exact ⟨(-32768, 32767), hF, (by kernel_rfl)⟩
  refine w_cF (m := .top) h30 (s1 := S144) (by kernel_rfl) (by kernel_rfl) ?_
  refine w_seq ?_
  refine w_seq ?_
  refine w_reg S146 (by kernel_rfl) ?_
  refine w_join (α := (Bool)) (fun x => (⟨[E1, E128, E129, E130, (79, .one .top (.bool x))], [B2], H⟩ : St)) (fun x => ref02_Check_j3 p0 r1 x = some ra) ?_ ?_
  rintro j31 hF
  replace hF : ref02_Check_j3 p0 r1 j31 = some ra := hF
  unfold ref02_Check_j3 at hF
  refine w_join (α := (Int × Int)) (fun x => (⟨[E1, (7, .one .top (.int .i64 x.1)), (8, .one .top (.int .i64 x.2))], [B2], H⟩ : St)) (fun x => ref02_Check_j4 p0 x.1 x.2 = some ra) ?_ ?_
  rintro ⟨j32, j33⟩ hF
  replace hF : ref02_Check_j4 p0 j32 j33 = some ra := hF
  unfold ref02_Check_j4 at hF
  exact ⟨(j32, j33), hF, (by kernel_rfl)⟩
  rcases if_inv hF with ⟨h34, hF⟩ | ⟨h34, hF⟩
  refine w_cT (m := .top) h34 (s1 := (⟨[E1, E128], [B2], H⟩ : St)) (by kernel_rfl) (by kernel_rfl) ?_
  refine w_reg ⟨[E1, E128, (8, .one .top (.int .i64 65535))], [B2], H⟩ (by kernel_rfl) ?_
  exact ⟨(0, 65535), hF, (by kernel_rfl)⟩
  refine w_cF (m := .top) h34 (s1 := S144) (by kernel_rfl) (by kernel_rfl) ?_
  refine w_seq ?_
  refine w_reg ⟨[E1, E128, E129, (83, .one .top (.bool (r1 == 7)))], [B2], H⟩ (by kernel_rfl) ?_
  refine w_join (α := (Int × Int)) (fun x => (⟨[E1, (7, .one .top (.int .i64 x.1)), (8, .one .top (.int .i64 x.2))], [B2], H⟩ : St)) (fun x => ref02_Check_j5 p0 x.1 x.2 = some ra) ?_ ?_
  rintro ⟨j35, j36⟩ hF
  replace hF : ref02_Check_j5 p0 j35 j36 = some ra := hF
  unfold ref02_Check_j5 at hF
  exact ⟨(j35, j36), hF, (by kernel_rfl)⟩
  rcases if_inv hF with ⟨h37, hF⟩ | ⟨h37, hF⟩
  refine w_cT (m := .top) h37 (s1 := S139) (by kernel_rfl) (by kernel_rfl) ?_
  refine w_reg ⟨[E1, (7, .one .top (.int .i64 (-8388608))), (8, .one .top (.int .i64 8388607))], [B2], H⟩ (by kernel_rfl) ?_
  exact ⟨(-8388608, 8388607), hF, (by kernel_rfl)⟩
  refine w_cF (m := .top) h37 (s1 := (⟨[E1, E128, E129], [B2], H⟩ : St)) (by kernel_rfl) (by kernel_rfl) ?_
  refine w_skip ?_
  exact ⟨(0, 0), hF, (by kernel_rfl)⟩
  rcases if_inv hF with ⟨h38, hF⟩ | ⟨h38, hF⟩
  refine w_cT (m := .top) h38 (s1 := S146) (by kernel_rfl) (by kernel_rfl) ?_
  refine w_skip ?_
  exact ⟨(r1 == 2), hF, (by kernel_rfl)⟩
  refine w_cF (m := .top) h38 (s1 := S144) (by kernel_rfl) (by kernel_rfl) ?_
  refine w_seq ?_
  refine w_reg S147 (by kernel_rfl) ?_
  refine w_join (α := (Bool)) (fun x => (⟨[E1, E128, E129, E130, (79, .one .top (.bool x))], [B2], H⟩ : St)) (fun x => ref02_Check_j6 p0 r1 x = some ra) ?_ ?_
  rintro j39 hF
  replace hF : ref02_Check_j6 p0 r1 j39 = some ra := hF
  unfold ref02_Check_j6 at hF
  exact ⟨j39, hF, (by kernel_rfl)⟩
  rcases if_inv hF with ⟨h40, hF⟩ | ⟨h40, hF⟩
  refine w_cT (m := .top) h40 (s1 := S147) (by kernel_rfl) (by kernel_rfl) ?_
  refine w_skip ?_
  exact ⟨(r1 == 4), hF, (by kernel_rfl)⟩
  refine w_cF (m := .top) h40 (s1 := S144) (by kernel_rfl) (by kernel_rfl) ?_
  refine w_reg ⟨[E1, E128, E129, E130, (79, .one .top (.bool (r1 == 8)))], [B2], H⟩ (by kernel_rfl) ?_
  exact ⟨(r1 == 8), hF, (by kernel_rfl)⟩
  rcases if_inv hF with ⟨h41, hF⟩ | ⟨h41, hF⟩
  refine w_cT (m := .top) h41 (s1 := S145) (by kernel_rfl) (by kernel_rfl) ?_
  refine w_skip ?_
  exact ⟨(r1 == 1), hF, (by kernel_rfl)⟩
  refine w_cF (m := .top) h41 (s1 := S144) (by kernel_rfl) (by kernel_rfl) ?_
  refine w_reg ⟨[E1, E128, E129, E130, (76, .one .top (.bool (r1 == 3)))], [B2], H⟩ (by kernel_rfl) ?_
  exact ⟨(r1 == 3), hF, (by kernel_rfl)⟩
noncomputable def ref02_Encode  (p0 : T_ref02_Instr) : Option (Int × Int) :=
  bind1 (ref02_Check p0) fun r1 =>
  if (r1 != 0) = true then (some (0, r1))
  else (bind1 (ref02_Shape p0.Op_) fun r4 =>
  if (r4 == 7) = true then (some ((IntKind.wrap .u32 (IntKind.wrap .i64 ((IntKind.wrap .i64 (p0.Op_ * 16777216)) + (Int.tmod (IntKind.wrap .i64 (p0.Imm_ + 16777216)) 16777216)))), 0))
  else (some ((IntKind.wrap .u32 (IntKind.wrap .i64 ((IntKind.wrap .i64 ((IntKind.wrap .i64 ((IntKind.wrap .i64 ((IntKind.wrap .i64 (p0.Op_ * 16777216)) + (IntKind.wrap .i64 (p0.A_ * 1048576)))) + (IntKind.wrap .i64 (p0.B_ * 65536)))) + (Int.tmod (IntKind.wrap .i64 (p0.Imm_ + 65536)) 65536))) + p0.C_))), 0)))
theorem ok_ref02_Encode (H : Heap) {p0 : T_ref02_Instr} {ra : Int} {rb : Int} (hF : ref02_Encode p0 = some (ra, rb)) : evS X 53 [.agg (m0_ref02_Instr p0)] H = some (.tup [.one .top (.int .u32 ra), .one .top (.int .i64 rb)], H) := by
  let E1 : EN := (1, .one .top (.loc 1 0))
  let B2 : EB := (1, (m0_ref02_Instr p0))
  let E4 : EN := (6, .agg (m0_ref02_Instr p0))
  let E6 : EN := (5, .one .top (.int .i64 (IntKind.wrap .i64 (p0.Op_ * 16777216))))
  let E8 : EN := (14, .one .top (.loc 1 0))
  let E9 : EN := (15, .one .top (.int .i64 p0.Op_))
  let E11 : EN := (3, .one .top (.int .i64 0))
  let S12 : St := ⟨[E1, E6], [B2], H⟩
  let S13 : St := ⟨[E1, E6, E8, E9], [B2], H⟩
  refine w_fun Try.func53 rfl (by kernel_rfl) true (by kernel_rfl) (s0 := (⟨[(0, .agg (m0_ref02_Instr p0))], [], H⟩ : St)) (by kernel_rfl) ?_
  unfold ref02_Encode at hF
  refine w_seq ?_
  refine w_reg ⟨[E1], [B2], H⟩ (by kernel_rfl) ?_
  refine w_seq ?_
  refine w_seq ?_
  obtain ⟨r1, c2, hF⟩ := bind1_inv hF
  let E3 : EN := (4, .one .top (.int .i64 r1))
  let E5 : EN := (7, .one .top (.int .i64 r1))
  refine w_regO ⟨[E1, E3], [B2], H⟩ ?_ ?_
  refine o_run 1 ⟨[E1, E4], [B2], H⟩ (by kernel_rfl) (by kernel_rfl) ?_
  refine o_one ⟨[E1, E4, E5], [B2], H⟩ (st_call (d := (some 7)) (fz := false) (pure := true) (own := false) (⟨[E1, E4], [B2], H⟩ : St) (ok_ref02_Check H c2) (by kernel_rfl) (by kernel_rfl)) ?_
  refine o_run 1 ⟨[E1, E3, E4, E5], [B2], H⟩ (by kernel_rfl) (by kernel_rfl) ?_
  exact o_end (by kernel_rfl) (by kernel_rfl)
  refine w_seq ?_
  refine w_reg ⟨[E1, E3, (9, .one .top (.bool (r1 != 0)))], [B2], H⟩ (by kernel_rfl) ?_
  rcases if_inv hF with ⟨h3, hF⟩ | ⟨h3, hF⟩
  refine w_cT (m := .top) h3 (s1 := (⟨[E3], [], H⟩ : St)) (by kernel_rfl) (by kernel_rfl) ?_
  refine w_seq ?_
  refine w_reg ⟨[(2, .one .top (.int .u32 0)), (3, .one .top (.int .i64 r1))], [], H⟩ (by kernel_rfl) ?_
  refine w_ret ?_
  obtain ⟨e0, e1⟩ := some2_inv hF
  subst e0
  subst e1
  exact fin_pure (v := .tup [.one .top (.int .u32 0), .one .top (.int .i64 r1)]) (by kernel_rfl) (by kernel_rfl) rfl (by kernel_rfl)
  refine w_cF (m := .top) h3 (s1 := (⟨[E1], [B2], H⟩ : St)) (by kernel_rfl) (by kernel_rfl) ?_
  refine w_skip ?_
  refine w_seq ?_
  refine w_reg S12 (by kernel_rfl) ?_
  refine w_seq ?_
  refine w_seq ?_
  obtain ⟨r4, c5, hF⟩ := bind1_inv hF
  let E7 : EN := (17, .one .top (.bool (r4 == 7)))
  let E10 : EN := (16, .one .top (.int .i64 r4))
  refine w_regO ⟨[E1, E6, E7], [B2], H⟩ ?_ ?_
  refine o_run 2 S13 (by kernel_rfl) (by kernel_rfl) ?_
  refine o_one ⟨[E1, E6, E8, E9, E10], [B2], H⟩ (st_call (d := (some 16)) (fz := false) (pure := true) (own := false) S13 (ok_ref02_Shape H c5) (by kernel_rfl) (by kernel_rfl)) ?_
  refine o_run 1 ⟨[E1, E6, E8, E9, E10, E7], [B2], H⟩ (by kernel_rfl) (by kernel_rfl) ?_
  exact o_end (by kernel_rfl) (by kernel_rfl)
  rcases if_inv hF with ⟨h6, hF⟩ | ⟨h6, hF⟩
  refine w_cT (m := .top) h6 (s1 := S12) (by kernel_rfl) (by kernel_rfl) ?_
  refine w_seq ?_
  refine w_reg ⟨[(2, .one .top (.int .u32 (IntKind.wrap .u32 (IntKind.wrap .i64 ((IntKind.wrap .i64 (p0.Op_ * 16777216)) + (Int.tmod (IntKind.wrap .i64 (p0.Imm_ + 16777216)) 16777216)))))), E11], [], H⟩ (by kernel_rfl) ?_
  refine w_ret ?_
  obtain ⟨e0, e1⟩ := some2_inv hF
  subst e0
  subst e1
  exact fin_pure (v := .tup [.one .top (.int .u32 (IntKind.wrap .u32 (IntKind.wrap .i64 ((IntKind.wrap .i64 (p0.Op_ * 16777216)) + (Int.tmod (IntKind.wrap .i64 (p0.Imm_ + 16777216)) 16777216))))), .one .top (.int .i64 0)]) (by kernel_rfl) (by kernel_rfl) rfl (by kernel_rfl)
  refine w_cF (m := .top) h6 (s1 := S12) (by kernel_rfl) (by kernel_rfl) ?_
  refine w_skip ?_
  refine w_seq ?_
  refine w_reg ⟨[(2, .one .top (.int .u32 (IntKind.wrap .u32 (IntKind.wrap .i64 ((IntKind.wrap .i64 ((IntKind.wrap .i64 ((IntKind.wrap .i64 ((IntKind.wrap .i64 (p0.Op_ * 16777216)) + (IntKind.wrap .i64 (p0.A_ * 1048576)))) + (IntKind.wrap .i64 (p0.B_ * 65536)))) + (Int.tmod (IntKind.wrap .i64 (p0.Imm_ + 65536)) 65536))) + p0.C_))))), E11], [], H⟩ (by kernel_rfl) ?_
  refine w_ret ?_
  obtain ⟨e0, e1⟩ := some2_inv hF
  subst e0
  subst e1
  exact fin_pure (v := .tup [.one .top (.int .u32 (IntKind.wrap .u32 (IntKind.wrap .i64 ((IntKind.wrap .i64 ((IntKind.wrap .i64 ((IntKind.wrap .i64 ((IntKind.wrap .i64 (p0.Op_ * 16777216)) + (IntKind.wrap .i64 (p0.A_ * 1048576)))) + (IntKind.wrap .i64 (p0.B_ * 65536)))) + (Int.tmod (IntKind.wrap .i64 (p0.Imm_ + 65536)) 65536))) + p0.C_)))), .one .top (.int .i64 0)]) (by kernel_rfl) (by kernel_rfl) rfl (by kernel_rfl)
noncomputable def ref02_Decode_j5 (p0 : Int) (j11 : T_ref02_Instr) : Option (T_ref02_Instr × Int) :=
  bind2 (ref02_Encode j11) fun r12 r13 =>
  if ((r13 != 0) || (r12 != p0)) = true then (some ((T_ref02_Instr.mk 0 0 0 0 0), 21))
  else (some (j11, 0))
noncomputable def ref02_Decode_j7 (p0 : Int) (j21 : T_ref02_Instr) : Option (T_ref02_Instr × Int) :=
  ref02_Decode_j5 p0 j21
noncomputable def ref02_Decode_j8 (p0 : Int) (j23 : T_ref02_Instr) : Option (T_ref02_Instr × Int) :=
  ref02_Decode_j7 p0 j23
noncomputable def ref02_Decode_j6 (p0 : Int) (j9 : T_ref02_Instr) (r1 : Int) (j20 : Bool) : Option (T_ref02_Instr × Int) :=
  if j20 = true then (ref02_Decode_j7 p0 (T_ref02_Instr.mk j9.Op_ j9.A_ j9.B_ j9.C_ (IntKind.wrap .i64 (Int.tmod p0 65536))))
  else (if (r1 == 7) = true then (bind1 (ref01_Sext p0 24) fun r25 =>
  ref02_Decode_j8 p0 (T_ref02_Instr.mk j9.Op_ j9.A_ j9.B_ j9.C_ (IntKind.wrap .i64 r25)))
  else (ref02_Decode_j8 p0 j9))
noncomputable def ref02_Decode_j9 (p0 : Int) (j9 : T_ref02_Instr) (r1 : Int) (j28 : Bool) : Option (T_ref02_Instr × Int) :=
  ref02_Decode_j6 p0 j9 r1 j28
noncomputable def ref02_Decode_j4 (p0 : Int) (j9 : T_ref02_Instr) (r1 : Int) (j10 : Bool) : Option (T_ref02_Instr × Int) :=
  if j10 = true then (bind1 (ref01_Sext p0 16) fun r18 =>
  ref02_Decode_j5 p0 (T_ref02_Instr.mk j9.Op_ j9.A_ j9.B_ j9.C_ (IntKind.wrap .i64 r18)))
  else (if (r1 == 2) = true then (ref02_Decode_j6 p0 j9 r1 (r1 == 2))
  else (if (r1 == 4) = true then (ref02_Decode_j9 p0 j9 r1 (r1 == 4))
  else (ref02_Decode_j9 p0 j9 r1 (r1 == 8))))
noncomputable def ref02_Decode_j3 (r1 : Int) (p0 : Int) (j9 : T_ref02_Instr) : Option (T_ref02_Instr × Int) :=
  if (r1 == 1) = true then (ref02_Decode_j4 p0 j9 r1 (r1 == 1))
  else (ref02_Decode_j4 p0 j9 r1 (r1 == 3))
noncomputable def ref02_Decode_j2 (r5 : Bool) (r1 : Int) (p0 : Int) (j8 : T_ref02_Instr) : Option (T_ref02_Instr × Int) :=
  if r5 = true then (ref02_Decode_j3 r1 p0 (T_ref02_Instr.mk j8.Op_ j8.A_ j8.B_ (IntKind.wrap .i64 (Int.tmod p0 16)) j8.Imm_))
  else (ref02_Decode_j3 r1 p0 j8)
noncomputable def ref02_Decode_j1 (r4 : Bool) (r5 : Bool) (r1 : Int) (p0 : Int) (j7 : T_ref02_Instr) : Option (T_ref02_Instr × Int) :=
  if r4 = true then (ref02_Decode_j2 r5 r1 p0 (T_ref02_Instr.mk j7.Op_ j7.A_ (IntKind.wrap .i64 (Int.tmod (IntKind.wrap .u32 (Int.tdiv p0 65536)) 16)) j7.C_ j7.Imm_))
  else (ref02_Decode_j2 r5 r1 p0 j7)
noncomputable def ref02_Decode  (p0 : Int) : Option (T_ref02_Instr × Int) :=
  bind1 (ref02_Shape (IntKind.wrap .i64 (IntKind.wrap .u32 (Int.tdiv p0 16777216)))) fun r1 =>
  bind3 (ref02_has r1) fun r3 r4 r5 =>
  if r3 = true then (ref02_Decode_j1 r4 r5 r1 p0 (T_ref02_Instr.mk (IntKind.wrap .i64 (IntKind.wrap .u32 (Int.tdiv p0 16777216))) (IntKind.wrap .i64 (Int.tmod (IntKind.wrap .u32 (Int.tdiv p0 1048576)) 16)) 0 0 0))
  else (ref02_Decode_j1 r4 r5 r1 p0 (T_ref02_Instr.mk (IntKind.wrap .i64 (IntKind.wrap .u32 (Int.tdiv p0 16777216))) 0 0 0 0))
theorem ok_ref02_Decode (H : Heap) {p0 : Int} {ra : T_ref02_Instr} {rb : Int} (hF : ref02_Decode p0 = some (ra, rb)) : evS X 97 [.one .top (.int .u32 p0)] H = some (.tup [.agg [(.top, .int .i64 ra.Op_), (.top, .int .i64 ra.A_), (.top, .int .i64 ra.B_), (.top, .int .i64 ra.C_), (.top, .int .i64 ra.Imm_)], .one .top (.int .i64 rb)], H) := by
  let E1 : EN := (0, .one .top (.int .u32 p0))
  let E2 : EN := (2, .one .top (.loc 2 0))
  let B3 : EB := (2, (List.replicate 5 (.top, .int .i64 0)))
  let E4 : EN := (4, .one .top (.loc 4 0))
  let B5 : EB := (4, ([(.top, .int .i64 (IntKind.wrap .i64 (IntKind.wrap .u32 (Int.tdiv p0 16777216))))] ++ List.replicate 4 (.top, .int .i64 0)))
  let E7 : EN := (15, .one .top (.loc 4 0))
  let E8 : EN := (16, .one .top (.int .i64 (IntKind.wrap .i64 (IntKind.wrap .u32 (Int.tdiv p0 16777216)))))
  let E26 : EN := (45, .one .top (.int .u32 p0))
  let E30 : EN := (59, .one .top (.int .u32 p0))
  let S33 : St := ⟨[E1, E2, E4, E7, E8], [B3, B5], H⟩
  refine w_fun Try.func97 rfl (by kernel_rfl) true (by kernel_rfl) (s0 := (⟨[E1], [], H⟩ : St)) (by kernel_rfl) ?_
  unfold ref02_Decode at hF
  refine w_seq ?_
  refine w_reg ⟨[E1, E2], [B3], H⟩ (by kernel_rfl) ?_
  refine w_seq ?_
  refine w_reg ⟨[E1, E2, E4], [B3, B5], H⟩ (by kernel_rfl) ?_
  refine w_seq ?_
  obtain ⟨r1, c2, hF⟩ := bind1_inv hF
  let E6 : EN := (5, .one .top (.int .i64 r1))
  let E9 : EN := (17, .one .top (.int .i64 r1))
  let E12 : EN := (19, .one .top (.int .i64 r1))
  let E16 : EN := (41, .one .top (.int .i64 r1))
  let E18 : EN := (42, .one .top (.bool (r1 == 1)))
  let E28 : EN := (49, .one .top (.bool (r1 == 2)))
  let E32 : EN := (49, .one .top (.bool (r1 == 4)))
  let S34 : St := ⟨[E1, E2, E4, E6, E12], [B3, B5], H⟩
  refine w_regO ⟨[E1, E2, E4, E6], [B3, B5], H⟩ ?_ ?_
  refine o_run 2 S33 (by kernel_rfl) (by kernel_rfl) ?_
  refine o_one ⟨[E1, E2, E4, E7, E8, E9], [B3, B5], H⟩ (st_call (d := (some 17)) (fz := false) (pure := true) (own := false) S33 (ok_ref02_Shape H c2) (by kernel_rfl) (by kernel_rfl)) ?_
  refine o_run 1 ⟨[E1, E2, E4, E6, E7, E8, E9], [B3, B5], H⟩ (by kernel_rfl) (by kernel_rfl) ?_
  exact o_end (by kernel_rfl) (by kernel_rfl)
  refine w_seq ?_
  obtain ⟨r3, r4, r5, c6, hF⟩ := bind3_inv hF
  let E10 : EN := (7, .one .top (.bool r4))
  let E11 : EN := (8, .one .top (.bool r5))
  let E13 : EN := (20, .tup [.one .top (.bool r3), .one .top (.bool r4), .one .top (.bool r5)])
  let S45 : St := ⟨[E1, E2, E4, E6, E10, E11], [B3, B5], H⟩
  refine w_regO ⟨[E1, E2, E4, E6, (6, .one .top (.bool r3)), E10, E11], [B3, B5], H⟩ ?_ ?_
  refine o_run 1 S34 (by kernel_rfl) (by kernel_rfl) ?_
  refine o_one ⟨[E1, E2, E4, E6, E12, E13], [B3, B5], H⟩ (st_call (d := (some 20)) (fz := false) (pure := true) (own := false) S34 (ok_ref02_has H c6) (by kernel_rfl) (by kernel_rfl)) ?_
  refine o_run 7 ⟨[E1, E2, E4, E6, (6, .one .top (.bool r3)), E10, E11, (18, .tup [.one .top (.bool r3), .one .top (.bool r4), .one .top (.bool r5)]), E12, E13, (21, .one .top (.bool r3)), (22, .one .top (.bool r4)), (23, .one .top (.bool r5))], [B3, B5], H⟩ (by kernel_rfl) (by kernel_rfl) ?_
  exact o_end (by kernel_rfl) (by kernel_rfl)
  refine w_seq ?_
  refine w_seq ?_
  refine w_reg ⟨[E1, E2, E4, E6, E10, E11, (24, .one .top (.bool r3))], [B3, B5], H⟩ (by kernel_rfl) ?_
  refine w_join (α := (T_ref02_Instr)) (fun x => (⟨[E1, E2, E4, E6, E10, E11], [B3, (4, (m0_ref02_Instr x))], H⟩ : St)) (fun x => ref02_Decode_j1 r4 r5 r1 p0 x = some (ra, rb)) ?_ ?_
  rintro j7 hF
  replace hF : ref02_Decode_j1 r4 r5 r1 p0 j7 = some (ra, rb) := hF
  let B14 : EB := (4, (m0_ref02_Instr j7))
  let S44 : St := ⟨[E1, E2, E4, E6, E11], [B3, B14], H⟩
  unfold ref02_Decode_j1 at hF
  refine w_seq ?_
  refine w_seq ?_
  refine w_reg ⟨[E1, E2, E4, E6, E11, (30, .one .top (.bool r4))], [B3, B14], H⟩ (by kernel_rfl) ?_
  refine w_join (α := (T_ref02_Instr)) (fun x => (⟨[E1, E2, E4, E6, E11], [B3, (4, (m0_ref02_Instr x))], H⟩ : St)) (fun x => ref02_Decode_j2 r5 r1 p0 x = some (ra, rb)) ?_ ?_
  rintro j8 hF
  replace hF : ref02_Decode_j2 r5 r1 p0 j8 = some (ra, rb) := hF
  let B15 : EB := (4, (m0_ref02_Instr j8))
  let S43 : St := ⟨[E1, E2, E4, E6], [B3, B15], H⟩
  unfold ref02_Decode_j2 at hF
  refine w_seq ?_
  refine w_seq ?_
  refine w_reg ⟨[E1, E2, E4, E6, (36, .one .top (.bool r5))], [B3, B15], H⟩ (by kernel_rfl) ?_
  refine w_join (α := (T_ref02_Instr)) (fun x => (⟨[E1, E2, E4, E6], [B3, (4, (m0_ref02_Instr x))], H⟩ : St)) (fun x => ref02_Decode_j3 r1 p0 x = some (ra, rb)) ?_ ?_
  rintro j9 hF
  replace hF : ref02_Decode_j3 r1 p0 j9 = some (ra, rb) := hF
  let B17 : EB := (4, (m0_ref02_Instr j9))
  let S35 : St := ⟨[E1, E2, E4, E16], [B3, B17], H⟩
  let S36 : St := ⟨[E1, E2, E4, E16, E18], [B3, B17], H⟩
  let S38 : St := ⟨[E1, E2, E4], [B3, B17], H⟩
  let S39 : St := ⟨[E1, E2, E4, E26], [B3, B17], H⟩
  let S40 : St := ⟨[E1, E2, E4, E16, E28], [B3, B17], H⟩
  let S41 : St := ⟨[E1, E2, E4, E30], [B3, B17], H⟩
  let S42 : St := ⟨[E1, E2, E4, E16, E32], [B3, B17], H⟩
  unfold ref02_Decode_j3 at hF
  refine w_seq ?_
  refine w_seq ?_
  refine w_reg S35 (by kernel_rfl) ?_
  refine w_block ?_
  refine w_seq ?_
  refine w_seq ?_
  refine w_reg S36 (by kernel_rfl) ?_
  refine w_join (α := (Bool)) (fun x => (⟨[E1, E2, E4, E16, (42, .one .top (.bool x))], [B3, B17], H⟩ : St)) (fun x => ref02_Decode_j4 p0 j9 r1 x = some (ra, rb)) ?_ ?_
  rintro j10 hF
  replace hF : ref02_Decode_j4 p0 j9 r1 j10 = some (ra, rb) := hF
  unfold ref02_Decode_j4 at hF
  refine w_join (α := (T_ref02_Instr)) (fun x => (⟨[E1, E2, E4], [B3, (4, (m0_ref02_Instr x))], H⟩ : St)) (fun x => ref02_Decode_j5 p0 x = some (ra, rb)) ?_ ?_
  rintro j11 hF
  replace hF : ref02_Decode_j5 p0 j11 = some (ra, rb) := hF
  let B21 : EB := (4, (m0_ref02_Instr j11))
  let E22 : EN := (64, .agg (m0_ref02_Instr j11))
  let S37 : St := ⟨[E1, E2, E4, E22], [B3, B21], H⟩
  unfold ref02_Decode_j5 at hF
  refine w_seq ?_
  obtain ⟨r12, r13, c14, hF⟩ := bind2_inv hF
  let E19 : EN := (9, .one .top (.int .u32 r12))
  let E20 : EN := (10, .one .top (.int .i64 r13))
  let E23 : EN := (65, .tup [.one .top (.int .u32 r12), .one .top (.int .i64 r13)])
  let E24 : EN := (68, .one .top (.int .i64 r13))
  refine w_regO ⟨[E1, E2, E4, E19, E20], [B3, B21], H⟩ ?_ ?_
  refine o_run 1 S37 (by kernel_rfl) (by kernel_rfl) ?_
  refine o_one ⟨[E1, E2, E4, E22, E23], [B3, B21], H⟩ (st_call (d := (some 65)) (fz := false) (pure := true) (own := false) S37 (ok_ref02_Encode H c14) (by kernel_rfl) (by kernel_rfl)) ?_
  refine o_run 5 ⟨[E1, E2, E4, E19, E20, (63, .tup [.one .top (.int .u32 r12), .one .top (.int .i64 r13)]), E22, E23, (66, .one .top (.int .u32 r12)), (67, .one .top (.int .i64 r13))], [B3, B21], H⟩ (by kernel_rfl) (by kernel_rfl) ?_
  exact o_end (by kernel_rfl) (by kernel_rfl)
  refine w_seq ?_
  refine w_seq ?_
  refine w_regO ⟨[E2, E4, (74, .one .top (.bool ((r13 != 0) || (r12 != p0))))], [B3, B21], H⟩ ?_ ?_
  refine o_run 3 ⟨[E1, E2, E4, E19, E20, E24, (69, .one .top (.bool (r13 != 0))), (70, .one .top (.bool (r13 != 0)))], [B3, B21], H⟩ (by kernel_rfl) (by kernel_rfl) ?_
  rcases bool_cases (r13 != 0) with h15 | h15
  refine o_eq (congrArg (fun q => (⟨[E1, E2, E4, E19, E20, E24, (69, .one .top (.bool q)), (70, .one .top (.bool q))], [B3, B21], H⟩ : St)) h15) ?_
  refine o_run 4 ⟨[E1, E2, E4, E19, E20, E24, (69, .one .top (.bool true)), (70, .one .top (.bool true)), (71, .tup []), (72, .tup []), (73, .tup []), (74, .one .top (.bool true))], [B3, B21], H⟩ (by kernel_rfl) (by kernel_rfl) ?_
  refine o_eq2 (congrArg (fun q0 => (⟨[E2, E4, (74, .one .top (.bool q0))], [B3, B21], H⟩ : St)) (show true = ((r13 != 0) || (r12 != p0)) by simp [h15])) ?_
  exact o_end (by kernel_rfl) (by kernel_rfl)
  refine o_eq (congrArg (fun q => (⟨[E1, E2, E4, E19, E20, E24, (69, .one .top (.bool q)), (70, .one .top (.bool q))], [B3, B21], H⟩ : St)) h15) ?_
  refine o_run 4 ⟨[E1, E2, E4, E19, E20, E24, (69, .one .top (.bool false)), (70, .one .top (.bool false)), (71, .one .top (.int .u32 r12)), (72, .one .top (.int .u32 p0)), (73, .one .top (.bool (r12 != p0))), (74, .one .top (.bool (r12 != p0)))], [B3, B21], H⟩ (by kernel_rfl) (by kernel_rfl) ?_
  refine o_eq2 (congrArg (fun q0 => (⟨[E2, E4, (74, .one .top (.bool q0))], [B3, B21], H⟩ : St)) (show (r12 != p0) = ((r13 != 0) || (r12 != p0)) by simp [h15])) ?_
  exact o_end (by kernel_rfl) (by kernel_rfl)
  rcases if_inv hF with ⟨h16, hF⟩ | ⟨h16, hF⟩
  refine w_cT (m := .top) h16 (s1 := (⟨[E2], [B3], H⟩ : St)) (by kernel_rfl) (by kernel_rfl) ?_
  refine w_seq ?_
  refine w_reg ⟨[E2, (3, .one .top (.int .i64 21))], [B3], H⟩ (by kernel_rfl) ?_
  refine w_ret ?_
  obtain ⟨e0, e1⟩ := some2_inv hF
  subst e0
  subst e1
  exact fin_pure (v := .tup [.agg (List.replicate 5 (.top, .int .i64 0)), .one .top (.int .i64 21)]) (by kernel_rfl) (by kernel_rfl) rfl (by kernel_rfl)
  refine w_cF (m := .top) h16 (s1 := (⟨[E2, E4], [B3, B21], H⟩ : St)) (by kernel_rfl) (by kernel_rfl) ?_
  refine w_skip ?_
  refine w_seq ?_
  refine w_reg ⟨[E2, (3, .one .top (.int .i64 0))], [(2, (m0_ref02_Instr j11))], H⟩ (by kernel_rfl) ?_
  refine w_ret ?_
  obtain ⟨e0, e1⟩ := some2_inv hF
  subst e0
  subst e1
  exact fin_pure (v := .tup [.agg (m0_ref02_Instr j11), .one .top (.int .i64 0)]) (by kernel_rfl) (by kernel_rfl) rfl (by kernel_rfl)
  rcases if_inv hF with ⟨h17, hF⟩ | ⟨h17, hF⟩
  refine w_cT (m := .top) h17 (s1 := S38) (by kernel_rfl) (by kernel_rfl) ?_
  obtain ⟨r18, c19, hF⟩ := bind1_inv hF
  let B25 : EB := (4, [(.top, .int .i64 j9.Op_), (.top, .int .i64 j9.A_), (.top, .int .i64 j9.B_), (.top, .int .i64 j9.C_), (.top, .int .i64 (IntKind.wrap .i64 r18))])
  let E27 : EN := (46, .one .top (.int .i32 r18))
  refine w_regO ⟨[E1, E2, E4], [B3, B25], H⟩ ?_ ?_
  refine o_run 1 S39 (by kernel_rfl) (by kernel_rfl) ?_
  refine o_one ⟨[E1, E2, E4, E26, E27], [B3, B17], H⟩ (st_call (d := (some 46)) (fz := false) (pure := true) (own := false) S39 (ok_ref01_Sext H c19) (by kernel_rfl) (by kernel_rfl)) ?_
  refine o_run 3 ⟨[E1, E2, E4, E26, E27, (47, .one .top (.int .i64 (IntKind.wrap .i64 r18))), (48, .one .top (.loc 4 4))], [B3, B25], H⟩ (by kernel_rfl) (by kernel_rfl) ?_
  exact o_end (by kernel_rfl) (by kernel_rfl)
  exact ⟨(T_ref02_Instr.mk j9.Op_ j9.A_ j9.B_ j9.C_ (IntKind.wrap .i64 r18)), hF, (by kernel_rfl)⟩
  refine w_cF (m := .top) h17 (s1 := S35) (by kernel_rfl) (by kernel_rfl) ?_
  refine w_seq ?_
  refine w_seq ?_
  refine w_reg S40 (by kernel_rfl) ?_
  refine w_join (α := (Bool)) (fun x => (⟨[E1, E2, E4, E16, (49, .one .top (.bool x))], [B3, B17], H⟩ : St)) (fun x => ref02_Decode_j6 p0 j9 r1 x = some (ra, rb)) ?_ ?_
  rintro j20 hF
  replace hF : ref02_Decode_j6 p0 j9 r1 j20 = some (ra, rb) := hF
  unfold ref02_Decode_j6 at hF
  refine w_join (α := (T_ref02_Instr)) (fun x => (⟨[E1, E2, E4], [B3, (4, (m0_ref02_Instr x))], H⟩ : St)) (fun x => ref02_Decode_j7 p0 x = some (ra, rb)) ?_ ?_
  rintro j21 hF
  replace hF : ref02_Decode_j7 p0 j21 = some (ra, rb) := hF
  unfold ref02_Decode_j7 at hF
  exact ⟨j21, hF, (by kernel_rfl)⟩
  rcases if_inv hF with ⟨h22, hF⟩ | ⟨h22, hF⟩
  refine w_cT (m := .top) h22 (s1 := S38) (by kernel_rfl) (by kernel_rfl) ?_
  refine w_reg ⟨[E1, E2, E4], [B3, (4, [(.top, .int .i64 j9.Op_), (.top, .int .i64 j9.A_), (.top, .int .i64 j9.B_), (.top, .int .i64 j9.C_), (.top, .int .i64 (IntKind.wrap .i64 (Int.tmod p0 65536)))])], H⟩ (by kernel_rfl) ?_
  exact ⟨(T_ref02_Instr.mk j9.Op_ j9.A_ j9.B_ j9.C_ (IntKind.wrap .i64 (Int.tmod p0 65536))), hF, (by kernel_rfl)⟩
  refine w_cF (m := .top) h22 (s1 := S35) (by kernel_rfl) (by kernel_rfl) ?_
  refine w_seq ?_
  refine w_reg ⟨[E1, E2, E4, (57, .one .top (.bool (r1 == 7)))], [B3, B17], H⟩ (by kernel_rfl) ?_
  refine w_join (α := (T_ref02_Instr)) (fun x => (⟨[E1, E2, E4], [B3, (4, (m0_ref02_Instr x))], H⟩ : St)) (fun x => ref02_Decode_j8 p0 x = some (ra, rb)) ?_ ?_
  rintro j23 hF
  replace hF : ref02_Decode_j8 p0 j23 = some (ra, rb) := hF
  unfold ref02_Decode_j8 at hF
  exact ⟨j23, hF, (by kernel_rfl)⟩
  rcases if_inv hF with ⟨h24, hF⟩ | ⟨h24, hF⟩
  refine w_cT (m := .top) h24 (s1 := S38) (by kernel_rfl) (by kernel_rfl) ?_
  obtain ⟨r25, c26, hF⟩ := bind1_inv hF
  let B29 : EB := (4, [(.top, .int .i64 j9.Op_), (.top, .int .i64 j9.A_), (.top, .int .i64 j9.B_), (.top, .int .i64 j9.C_), (.top, .int .i64 (IntKind.wrap .i64 r25))])
  let E31 : EN := (60, .one .top (.int .i32 r25))
  refine w_regO ⟨[E1, E2, E4], [B3, B29], H⟩ ?_ ?_
  refine o_run 1 S41 (by kernel_rfl) (by kernel_rfl) ?_
  refine o_one ⟨[E1, E2, E4, E30, E31], [B3, B17], H⟩ (st_call (d := (some 60)) (fz := false) (pure := true) (own := false) S41 (ok_ref01_Sext H c26) (by kernel_rfl) (by kernel_rfl)) ?_
  refine o_run 3 ⟨[E1, E2, E4, E30, E31, (61, .one .top (.int .i64 (IntKind.wrap .i64 r25))), (62, .one .top (.loc 4 4))], [B3, B29], H⟩ (by kernel_rfl) (by kernel_rfl) ?_
  exact o_end (by kernel_rfl) (by kernel_rfl)
  exact ⟨(T_ref02_Instr.mk j9.Op_ j9.A_ j9.B_ j9.C_ (IntKind.wrap .i64 r25)), hF, (by kernel_rfl)⟩
  refine w_cF (m := .top) h24 (s1 := S38) (by kernel_rfl) (by kernel_rfl) ?_
  refine w_skip ?_
  exact ⟨j9, hF, (by kernel_rfl)⟩
  rcases if_inv hF with ⟨h27, hF⟩ | ⟨h27, hF⟩
  refine w_cT (m := .top) h27 (s1 := S40) (by kernel_rfl) (by kernel_rfl) ?_
  refine w_skip ?_
  exact ⟨(r1 == 2), hF, (by kernel_rfl)⟩
  refine w_cF (m := .top) h27 (s1 := S35) (by kernel_rfl) (by kernel_rfl) ?_
  refine w_seq ?_
  refine w_reg S42 (by kernel_rfl) ?_
  refine w_join (α := (Bool)) (fun x => (⟨[E1, E2, E4, E16, (49, .one .top (.bool x))], [B3, B17], H⟩ : St)) (fun x => ref02_Decode_j9 p0 j9 r1 x = some (ra, rb)) ?_ ?_
  rintro j28 hF
  replace hF : ref02_Decode_j9 p0 j9 r1 j28 = some (ra, rb) := hF
  unfold ref02_Decode_j9 at hF
  exact ⟨j28, hF, (by kernel_rfl)⟩
  rcases if_inv hF with ⟨h29, hF⟩ | ⟨h29, hF⟩
  refine w_cT (m := .top) h29 (s1 := S42) (by kernel_rfl) (by kernel_rfl) ?_
  refine w_skip ?_
  exact ⟨(r1 == 4), hF, (by kernel_rfl)⟩
  refine w_cF (m := .top) h29 (s1 := S35) (by kernel_rfl) (by kernel_rfl) ?_
  refine w_reg ⟨[E1, E2, E4, E16, (49, .one .top (.bool (r1 == 8)))], [B3, B17], H⟩ (by kernel_rfl) ?_
  exact ⟨(r1 == 8), hF, (by kernel_rfl)⟩
  rcases if_inv hF with ⟨h30, hF⟩ | ⟨h30, hF⟩
  refine w_cT (m := .top) h30 (s1 := S36) (by kernel_rfl) (by kernel_rfl) ?_
  refine w_skip ?_
  exact ⟨(r1 == 1), hF, (by kernel_rfl)⟩
  refine w_cF (m := .top) h30 (s1 := S35) (by kernel_rfl) (by kernel_rfl) ?_
  refine w_reg ⟨[E1, E2, E4, E16, (42, .one .top (.bool (r1 == 3)))], [B3, B17], H⟩ (by kernel_rfl) ?_
  exact ⟨(r1 == 3), hF, (by kernel_rfl)⟩
  rcases if_inv hF with ⟨h31, hF⟩ | ⟨h31, hF⟩
  refine w_cT (m := .top) h31 (s1 := S43) (by kernel_rfl) (by kernel_rfl) ?_
  refine w_reg ⟨[E1, E2, E4, E6], [B3, (4, [(.top, .int .i64 j8.Op_), (.top, .int .i64 j8.A_), (.top, .int .i64 j8.B_), (.top, .int .i64 (IntKind.wrap .i64 (Int.tmod p0 16))), (.top, .int .i64 j8.Imm_)])], H⟩ (by kernel_rfl) ?_
  exact ⟨(T_ref02_Instr.mk j8.Op_ j8.A_ j8.B_ (IntKind.wrap .i64 (Int.tmod p0 16)) j8.Imm_), hF, (by kernel_rfl)⟩
  refine w_cF (m := .top) h31 (s1 := S43) (by kernel_rfl) (by kernel_rfl) ?_
  refine w_skip ?_
  exact ⟨j8, hF, (by kernel_rfl)⟩
  rcases if_inv hF with ⟨h32, hF⟩ | ⟨h32, hF⟩
  refine w_cT (m := .top) h32 (s1 := S44) (by kernel_rfl) (by kernel_rfl) ?_
  refine w_reg ⟨[E1, E2, E4, E6, E11], [B3, (4, [(.top, .int .i64 j7.Op_), (.top, .int .i64 j7.A_), (.top, .int .i64 (IntKind.wrap .i64 (Int.tmod (IntKind.wrap .u32 (Int.tdiv p0 65536)) 16))), (.top, .int .i64 j7.C_), (.top, .int .i64 j7.Imm_)])], H⟩ (by kernel_rfl) ?_
  exact ⟨(T_ref02_Instr.mk j7.Op_ j7.A_ (IntKind.wrap .i64 (Int.tmod (IntKind.wrap .u32 (Int.tdiv p0 65536)) 16)) j7.C_ j7.Imm_), hF, (by kernel_rfl)⟩
  refine w_cF (m := .top) h32 (s1 := S44) (by kernel_rfl) (by kernel_rfl) ?_
  refine w_skip ?_
  exact ⟨j7, hF, (by kernel_rfl)⟩
  rcases if_inv hF with ⟨h33, hF⟩ | ⟨h33, hF⟩
  refine w_cT (m := .top) h33 (s1 := S45) (by kernel_rfl) (by kernel_rfl) ?_
  refine w_reg ⟨[E1, E2, E4, E6, E10, E11], [B3, (4, [(.top, .int .i64 (IntKind.wrap .i64 (IntKind.wrap .u32 (Int.tdiv p0 16777216)))), (.top, .int .i64 (IntKind.wrap .i64 (Int.tmod (IntKind.wrap .u32 (Int.tdiv p0 1048576)) 16))), (.top, .int .i64 0), (.top, .int .i64 0), (.top, .int .i64 0)])], H⟩ (by kernel_rfl) ?_
  exact ⟨(T_ref02_Instr.mk (IntKind.wrap .i64 (IntKind.wrap .u32 (Int.tdiv p0 16777216))) (IntKind.wrap .i64 (Int.tmod (IntKind.wrap .u32 (Int.tdiv p0 1048576)) 16)) 0 0 0), hF, (by kernel_rfl)⟩
  refine w_cF (m := .top) h33 (s1 := S45) (by kernel_rfl) (by kernel_rfl) ?_
  refine w_skip ?_
  exact ⟨(T_ref02_Instr.mk (IntKind.wrap .i64 (IntKind.wrap .u32 (Int.tdiv p0 16777216))) 0 0 0 0), hF, (by kernel_rfl)⟩
noncomputable def ref01_Times  (p0 : Int) (p1 : Int) : Option (Int) :=
  bind1 (ref01_Round (IntKind.wrap .i64 ((IntKind.wrap .i64 p0) * (IntKind.wrap .i64 p1)))) fun r1 =>
  some r1
theorem ok_ref01_Times (H : Heap) {p0 : Int} {p1 : Int} {ra : Int} (hF : ref01_Times p0 p1 = some ra) : evS X 72 [.one .top (.int .i32 p0), .one .top (.int .i32 p1)] H = some (.one .top (.int .i32 ra), H) := by
  let E1 : EN := (0, .one .top (.int .i32 p0))
  let E2 : EN := (1, .one .top (.int .i32 p1))
  let E4 : EN := (5, .one .top (.int .i32 p0))
  let E5 : EN := (6, .one .top (.int .i64 (IntKind.wrap .i64 p0)))
  let E6 : EN := (7, .one .top (.int .i32 p1))
  let E7 : EN := (8, .one .top (.int .i64 (IntKind.wrap .i64 p1)))
  let E8 : EN := (9, .one .top (.int .i64 (IntKind.wrap .i64 ((IntKind.wrap .i64 p0) * (IntKind.wrap .i64 p1)))))
  let S10 : St := ⟨[E1, E2, E4, E5, E6, E7, E8], [], H⟩
  refine w_fun Try.func72 rfl (by kernel_rfl) true (by kernel_rfl) (s0 := (⟨[E1, E2], [], H⟩ : St)) (by kernel_rfl) ?_
  unfold ref01_Times at hF
  refine w_seq ?_
  refine w_reg ⟨[E1, E2], [], H⟩ (by kernel_rfl) ?_
  refine w_seq ?_
  obtain ⟨r1, c2, hF⟩ := bind1_inv hF
  let E3 : EN := (4, .one .top (.int .i32 r1))
  let E9 : EN := (10, .one .top (.int .i32 r1))
  refine w_regO ⟨[E3], [], H⟩ ?_ ?_
  refine o_run 5 S10 (by kernel_rfl) (by kernel_rfl) ?_
  refine o_one ⟨[E1, E2, E4, E5, E6, E7, E8, E9], [], H⟩ (st_call (d := (some 10)) (fz := false) (pure := true) (own := false) S10 (ok_ref01_Round H c2) (by kernel_rfl) (by kernel_rfl)) ?_
  refine o_run 1 ⟨[E1, E2, E3, E4, E5, E6, E7, E8, E9], [], H⟩ (by kernel_rfl) (by kernel_rfl) ?_
  exact o_end (by kernel_rfl) (by kernel_rfl)
  refine w_ret ?_
  obtain e0 := some1_inv hF
  subst e0
  exact fin_pure (v := .one .top (.int .i32 r1)) (by kernel_rfl) (by kernel_rfl) rfl (by kernel_rfl)
noncomputable def ref01_Div_j1 (j5 : Int) : Option (Int × Bool) :=
  bind1 (ref01_Round j5) fun r6 =>
  some (r6, true)
noncomputable def ref01_Div  (p0 : Int) (p1 : Int) : Option (Int × Bool) :=
  if (p1 == 0) = true then (some (0, false))
  else (bind1 (quoI .i64 (IntKind.wrap .i64 p0) (IntKind.wrap .i64 p1)) fun v2 =>
  if (((IntKind.wrap .i64 (v2 * (IntKind.wrap .i64 p1))) != (IntKind.wrap .i64 p0)) && ((decide ((IntKind.wrap .i64 p0) < 0)) != (decide ((IntKind.wrap .i64 p1) < 0)))) = true then (ref01_Div_j1 (IntKind.wrap .i64 (v2 - 1)))
  else (ref01_Div_j1 v2))
theorem ok_ref01_Div (H : Heap) {p0 : Int} {p1 : Int} {ra : Int} {rb : Bool} (hF : ref01_Div p0 p1 = some (ra, rb)) : evS X 73 [.one .top (.int .i32 p0), .one .top (.int .i32 p1)] H = some (.tup [.one .top (.int .i32 ra), .one .top (.bool rb)], H) := by
  let E1 : EN := (0, .one .top (.int .i32 p0))
  let E2 : EN := (1, .one .top (.int .i32 p1))
  let E3 : EN := (6, .one .top (.int .i64 (IntKind.wrap .i64 p0)))
  let E4 : EN := (7, .one .top (.int .i64 (IntKind.wrap .i64 p1)))
  let E6 : EN := (15, .one .top (.int .i64 (IntKind.wrap .i64 p0)))
  let E7 : EN := (16, .one .top (.int .i64 (IntKind.wrap .i64 p1)))
  let E10 : EN := (19, .one .top (.int .i64 (IntKind.wrap .i64 p1)))
  let E12 : EN := (21, .one .top (.int .i64 (IntKind.wrap .i64 p0)))
  let E14 : EN := (5, .one .top (.bool true))
  let S18 : St := ⟨[E1, E2], [], H⟩
  let S19 : St := ⟨[E3, E4, E6, E7], [], H⟩
  refine w_fun Try.func73 rfl (by kernel_rfl) true (by kernel_rfl) (s0 := S18) (by kernel_rfl) ?_
  unfold ref01_Div at hF
  refine w_seq ?_
  refine w_reg S18 (by kernel_rfl) ?_
  refine w_seq ?_
  refine w_seq ?_
  refine w_reg ⟨[E1, E2, (10, .one .top (.bool (p1 == 0)))], [], H⟩ (by kernel_rfl) ?_
  rcases if_inv hF with ⟨h1, hF⟩ | ⟨h1, hF⟩
  refine w_cT (m := .top) h1 (s1 := (⟨[], [], H⟩ : St)) (by kernel_rfl) (by kernel_rfl) ?_
  refine w_seq ?_
  refine w_reg ⟨[(4, .one .top (.int .i32 0)), (5, .one .top (.bool false))], [], H⟩ (by kernel_rfl) ?_
  refine w_ret ?_
  obtain ⟨e0, e1⟩ := some2_inv hF
  subst e0
  subst e1
  exact fin_pure (v := .tup [.one .top (.int .i32 0), .one .top (.bool false)]) (by kernel_rfl) (by kernel_rfl) rfl (by kernel_rfl)
  refine w_cF (m := .top) h1 (s1 := S18) (by kernel_rfl) (by kernel_rfl) ?_
  refine w_skip ?_
  refine w_seq ?_
  refine w_reg ⟨[E3, E4], [], H⟩ (by kernel_rfl) ?_
  refine w_seq ?_
  obtain ⟨v2, h3, hF⟩ := bind1_inv hF
  let E5 : EN := (8, .one .top (.int .i64 v2))
  let E8 : EN := (17, .one .top (.int .i64 v2))
  let E9 : EN := (18, .one .top (.int .i64 v2))
  let E11 : EN := (20, .one .top (.int .i64 (IntKind.wrap .i64 (v2 * (IntKind.wrap .i64 p1)))))
  refine w_regO ⟨[E3, E4, E5], [], H⟩ ?_ ?_
  refine o_run 2 S19 (by kernel_rfl) (by kernel_rfl) ?_
  refine o_one ⟨[E3, E4, E6, E7, E8], [], H⟩ (st_binI S19 .i64 h3 (ev_quo (P := X.P) (ty := 3) (x := (.tmp 15)) (y := (.tmp 16)) (m := .top) (m' := .top) (k := .i64) (a := (IntKind.wrap .i64 p0)) (b := (IntKind.wrap .i64 p1))) (some 17) (by kernel_rfl) (by kernel_rfl)) ?_
  refine o_run 1 ⟨[E3, E4, E5, E6, E7, E8], [], H⟩ (by kernel_rfl) (by kernel_rfl) ?_
  exact o_end (by kernel_rfl) (by kernel_rfl)
  refine w_seq ?_
  refine w_seq ?_
  refine w_regO ⟨[E5, (29, .one .top (.bool (((IntKind.wrap .i64 (v2 * (IntKind.wrap .i64 p1))) != (IntKind.wrap .i64 p0)) && ((decide ((IntKind.wrap .i64 p0) < 0)) != (decide ((IntKind.wrap .i64 p1) < 0))))))], [], H⟩ ?_ ?_
  refine o_run 6 ⟨[E3, E4, E5, E9, E10, E11, E12, (22, .one .top (.bool ((IntKind.wrap .i64 (v2 * (IntKind.wrap .i64 p1))) != (IntKind.wrap .i64 p0)))), (23, .one .top (.bool ((IntKind.wrap .i64 (v2 * (IntKind.wrap .i64 p1))) != (IntKind.wrap .i64 p0))))], [], H⟩ (by kernel_rfl) (by kernel_rfl) ?_
  rcases bool_cases ((IntKind.wrap .i64 (v2 * (IntKind.wrap .i64 p1))) != (IntKind.wrap .i64 p0)) with h4 | h4
  refine o_eq (congrArg (fun q => (⟨[E3, E4, E5, E9, E10, E11, E12, (22, .one .top (.bool q)), (23, .one .top (.bool q))], [], H⟩ : St)) h4) ?_
  refine o_run 6 ⟨[E3, E4, E5, E9, E10, E11, E12, (22, .one .top (.bool true)), (23, .one .top (.bool true)), (24, .one .top (.int .i64 (IntKind.wrap .i64 p0))), (25, .one .top (.bool (decide ((IntKind.wrap .i64 p0) < 0)))), (26, .one .top (.int .i64 (IntKind.wrap .i64 p1))), (27, .one .top (.bool (decide ((IntKind.wrap .i64 p1) < 0)))), (28, .one .top (.bool ((decide ((IntKind.wrap .i64 p0) < 0)) != (decide ((IntKind.wrap .i64 p1) < 0))))), (29, .one .top (.bool ((decide ((IntKind.wrap .i64 p0) < 0)) != (decide ((IntKind.wrap .i64 p1) < 0)))))], [], H⟩ (by kernel_rfl) (by kernel_rfl) ?_
  refine o_eq2 (congrArg (fun q0 => (⟨[E5, (29, .one .top (.bool q0))], [], H⟩ : St)) (show ((decide ((IntKind.wrap .i64 p0) < 0)) != (decide ((IntKind.wrap .i64 p1) < 0))) = (((IntKind.wrap .i64 (v2 * (IntKind.wrap .i64 p1))) != (IntKind.wrap .i64 p0)) && ((decide ((IntKind.wrap .i64 p0) < 0)) != (decide ((IntKind.wrap .i64 p1) < 0)))) by simp [h4])) ?_
  exact o_end (by kernel_rfl) (by kernel_rfl)
  refine o_eq (congrArg (fun q => (⟨[E3, E4, E5, E9, E10, E11, E12, (22, .one .top (.bool q)), (23, .one .top (.bool q))], [], H⟩ : St)) h4) ?_
  refine o_run 6 ⟨[E3, E4, E5, E9, E10, E11, E12, (22, .one .top (.bool false)), (23, .one .top (.bool false)), (24, .tup []), (25, .tup []), (26, .tup []), (27, .tup []), (28, .tup []), (29, .one .top (.bool false))], [], H⟩ (by kernel_rfl) (by kernel_rfl) ?_
  refine o_eq2 (congrArg (fun q0 => (⟨[E5, (29, .one .top (.bool q0))], [], H⟩ : St)) (show false = (((IntKind.wrap .i64 (v2 * (IntKind.wrap .i64 p1))) != (IntKind.wrap .i64 p0)) && ((decide ((IntKind.wrap .i64 p0) < 0)) != (decide ((IntKind.wrap .i64 p1) < 0)))) by simp [h4])) ?_
  exact o_end (by kernel_rfl) (by kernel_rfl)
  refine w_join (α := (Int)) (fun x => (⟨[(8, .one .top (.int .i64 x))], [], H⟩ : St)) (fun x => ref01_Div_j1 x = some (ra, rb)) ?_ ?_
  rintro j5 hF
  replace hF : ref01_Div_j1 j5 = some (ra, rb) := hF
  let E15 : EN := (8, .one .top (.int .i64 j5))
  let E16 : EN := (32, .one .top (.int .i64 j5))
  unfold ref01_Div_j1 at hF
  refine w_seq ?_
  obtain ⟨r6, c7, hF⟩ := bind1_inv hF
  let E13 : EN := (4, .one .top (.int .i32 r6))
  let E17 : EN := (33, .one .top (.int .i32 r6))
  refine w_regO ⟨[E13, E14], [], H⟩ ?_ ?_
  refine o_run 1 ⟨[E15, E16], [], H⟩ (by kernel_rfl) (by kernel_rfl) ?_
  refine o_one ⟨[E15, E16, E17], [], H⟩ (st_call (d := (some 33)) (fz := false) (pure := true) (own := false) (⟨[E15, E16], [], H⟩ : St) (ok_ref01_Round H c7) (by kernel_rfl) (by kernel_rfl)) ?_
  refine o_run 2 ⟨[E13, E14, E15, E16, E17], [], H⟩ (by kernel_rfl) (by kernel_rfl) ?_
  exact o_end (by kernel_rfl) (by kernel_rfl)
  refine w_ret ?_
  obtain ⟨e0, e1⟩ := some2_inv hF
  subst e0
  subst e1
  exact fin_pure (v := .tup [.one .top (.int .i32 r6), .one .top (.bool true)]) (by kernel_rfl) (by kernel_rfl) rfl (by kernel_rfl)
  rcases if_inv hF with ⟨h8, hF⟩ | ⟨h8, hF⟩
  refine w_cT (m := .top) h8 (s1 := (⟨[E5], [], H⟩ : St)) (by kernel_rfl) (by kernel_rfl) ?_
  refine w_reg ⟨[(8, .one .top (.int .i64 (IntKind.wrap .i64 (v2 - 1))))], [], H⟩ (by kernel_rfl) ?_
  exact ⟨(IntKind.wrap .i64 (v2 - 1)), hF, (by kernel_rfl)⟩
  refine w_cF (m := .top) h8 (s1 := (⟨[E5], [], H⟩ : St)) (by kernel_rfl) (by kernel_rfl) ?_
  refine w_skip ?_
  exact ⟨v2, hF, (by kernel_rfl)⟩
noncomputable def ref01_Mod  (p0 : Int) (p1 : Int) : Option (Int × Bool) :=
  bind2 (ref01_Div p0 p1) fun r1 r2 =>
  if (!r2) = true then (some (0, false))
  else (bind1 (ref01_Round (IntKind.wrap .i64 ((IntKind.wrap .i64 p0) - (IntKind.wrap .i64 ((IntKind.wrap .i64 r1) * (IntKind.wrap .i64 p1)))))) fun r5 =>
  some (r5, true))
theorem ok_ref01_Mod (H : Heap) {p0 : Int} {p1 : Int} {ra : Int} {rb : Bool} (hF : ref01_Mod p0 p1 = some (ra, rb)) : evS X 74 [.one .top (.int .i32 p0), .one .top (.int .i32 p1)] H = some (.tup [.one .top (.int .i32 ra), .one .top (.bool rb)], H) := by
  let E1 : EN := (0, .one .top (.int .i32 p0))
  let E2 : EN := (1, .one .top (.int .i32 p1))
  let E4 : EN := (9, .one .top (.int .i32 p0))
  let E5 : EN := (10, .one .top (.int .i32 p1))
  let E8 : EN := (5, .one .top (.bool true))
  let E9 : EN := (16, .one .top (.int .i32 p0))
  let E10 : EN := (17, .one .top (.int .i64 (IntKind.wrap .i64 p0)))
  let E13 : EN := (20, .one .top (.int .i32 p1))
  let E14 : EN := (21, .one .top (.int .i64 (IntKind.wrap .i64 p1)))
  let S18 : St := ⟨[E1, E2, E4, E5], [], H⟩
  refine w_fun Try.func74 rfl (by kernel_rfl) true (by kernel_rfl) (s0 := (⟨[E1, E2], [], H⟩ : St)) (by kernel_rfl) ?_
  unfold ref01_Mod at hF
  refine w_seq ?_
  refine w_reg ⟨[E1, E2], [], H⟩ (by kernel_rfl) ?_
  refine w_seq ?_
  obtain ⟨r1, r2, c3, hF⟩ := bind2_inv hF
  let E3 : EN := (6, .one .top (.int .i32 r1))
  let E6 : EN := (11, .tup [.one .top (.int .i32 r1), .one .top (.bool r2)])
  let E11 : EN := (18, .one .top (.int .i32 r1))
  let E12 : EN := (19, .one .top (.int .i64 (IntKind.wrap .i64 r1)))
  let E15 : EN := (22, .one .top (.int .i64 (IntKind.wrap .i64 ((IntKind.wrap .i64 r1) * (IntKind.wrap .i64 p1)))))
  let E16 : EN := (23, .one .top (.int .i64 (IntKind.wrap .i64 ((IntKind.wrap .i64 p0) - (IntKind.wrap .i64 ((IntKind.wrap .i64 r1) * (IntKind.wrap .i64 p1)))))))
  let S19 : St := ⟨[E1, E2, E3, E9, E10, E11, E12, E13, E14, E15, E16], [], H⟩
  refine w_regO ⟨[E1, E2, E3, (7, .one .top (.bool r2))], [], H⟩ ?_ ?_
  refine o_run 2 S18 (by kernel_rfl) (by kernel_rfl) ?_
  refine o_one ⟨[E1, E2, E4, E5, E6], [], H⟩ (st_call (d := (some 11)) (fz := false) (pure := true) (own := false) S18 (ok_ref01_Div H c3) (by kernel_rfl) (by kernel_rfl)) ?_
  refine o_run 5 ⟨[E1, E2, E3, (7, .one .top (.bool r2)), (8, .tup [.one .top (.int .i32 r1), .one .top (.bool r2)]), E4, E5, E6, (12, .one .top (.int .i32 r1)), (13, .one .top (.bool r2))], [], H⟩ (by kernel_rfl) (by kernel_rfl) ?_
  exact o_end (by kernel_rfl) (by kernel_rfl)
  refine w_seq ?_
  refine w_seq ?_
  refine w_reg ⟨[E1, E2, E3, (15, .one .top (.bool (!r2)))], [], H⟩ (by kernel_rfl) ?_
  rcases if_inv hF with ⟨h4, hF⟩ | ⟨h4, hF⟩
  refine w_cT (m := .top) h4 (s1 := (⟨[], [], H⟩ : St)) (by kernel_rfl) (by kernel_rfl) ?_
  refine w_seq ?_
  refine w_reg ⟨[(4, .one .top (.int .i32 0)), (5, .one .top (.bool false))], [], H⟩ (by kernel_rfl) ?_
  refine w_ret ?_
  obtain ⟨e0, e1⟩ := some2_inv hF
  subst e0
  subst e1
  exact fin_pure (v := .tup [.one .top (.int .i32 0), .one .top (.bool false)]) (by kernel_rfl) (by kernel_rfl) rfl (by kernel_rfl)
  refine w_cF (m := .top) h4 (s1 := (⟨[E1, E2, E3], [], H⟩ : St)) (by kernel_rfl) (by kernel_rfl) ?_
  refine w_skip ?_
  refine w_seq ?_
  obtain ⟨r5, c6, hF⟩ := bind1_inv hF
  let E7 : EN := (4, .one .top (.int .i32 r5))
  let E17 : EN := (24, .one .top (.int .i32 r5))
  refine w_regO ⟨[E7, E8], [], H⟩ ?_ ?_
  refine o_run 8 S19 (by kernel_rfl) (by kernel_rfl) ?_
  refine o_one ⟨[E1, E2, E3, E9, E10, E11, E12, E13, E14, E15, E16, E17], [], H⟩ (st_call (d := (some 24)) (fz := false) (pure := true) (own := false) S19 (ok_ref01_Round H c6) (by kernel_rfl) (by kernel_rfl)) ?_
  refine o_run 2 ⟨[E1, E2, E7, E8, E3, E9, E10, E11, E12, E13, E14, E15, E16, E17], [], H⟩ (by kernel_rfl) (by kernel_rfl) ?_
  exact o_end (by kernel_rfl) (by kernel_rfl)
  refine w_ret ?_
  obtain ⟨e0, e1⟩ := some2_inv hF
  subst e0
  subst e1
  exact fin_pure (v := .tup [.one .top (.int .i32 r5), .one .top (.bool true)]) (by kernel_rfl) (by kernel_rfl) rfl (by kernel_rfl)
noncomputable def ref04_is  (p0 : Bool) : Option (Int) :=
  if p0 = true then (some 1)
  else (some 0)
theorem ok_ref04_is (H : Heap) {p0 : Bool} {ra : Int} (hF : ref04_is p0 = some ra) : evS X 135 [.one .top (.bool p0)] H = some (.one .top (.int .u32 ra), H) := by
  let S1 : St := ⟨[(0, .one .top (.bool p0))], [], H⟩
  refine w_fun Try.func135 rfl (by kernel_rfl) true (by kernel_rfl) (s0 := S1) (by kernel_rfl) ?_
  unfold ref04_is at hF
  refine w_seq ?_
  refine w_reg S1 (by kernel_rfl) ?_
  refine w_seq ?_
  refine w_seq ?_
  refine w_reg ⟨[(3, .one .top (.bool p0))], [], H⟩ (by kernel_rfl) ?_
  rcases if_inv hF with ⟨h1, hF⟩ | ⟨h1, hF⟩
  refine w_cT (m := .top) h1 (s1 := (⟨[], [], H⟩ : St)) (by kernel_rfl) (by kernel_rfl) ?_
  refine w_seq ?_
  refine w_reg ⟨[(2, .one .top (.int .u32 1))], [], H⟩ (by kernel_rfl) ?_
  refine w_ret ?_
  obtain e0 := some1_inv hF
  subst e0
  exact fin_pure (v := .one .top (.int .u32 1)) (by kernel_rfl) (by kernel_rfl) rfl (by kernel_rfl)
  refine w_cF (m := .top) h1 (s1 := (⟨[], [], H⟩ : St)) (by kernel_rfl) (by kernel_rfl) ?_
  refine w_skip ?_
  refine w_seq ?_
  refine w_reg ⟨[(2, .one .top (.int .u32 0))], [], H⟩ (by kernel_rfl) ?_
  refine w_ret ?_
  obtain e0 := some1_inv hF
  subst e0
  exact fin_pure (v := .one .top (.int .u32 0)) (by kernel_rfl) (by kernel_rfl) rfl (by kernel_rfl)
noncomputable def ref04_reckon  (p0 : Int) (p1 : Int) (p2 : Int) : Option (Int × Bool) :=
  if (p0 == 6) = true then (some ((IntKind.wrap .u32 (p1 + p2)), true))
  else (if (p0 == 7) = true then (some ((IntKind.wrap .u32 (p1 - p2)), true))
  else (if (p0 == 8) = true then (bind1 (ref01_Times (IntKind.wrap .i32 p1) (IntKind.wrap .i32 p2)) fun r4 =>
  some ((IntKind.wrap .u32 r4), true))
  else (if (p0 == 9) = true then (bind2 (ref01_Div (IntKind.wrap .i32 p1) (IntKind.wrap .i32 p2)) fun r7 r8 =>
  some ((IntKind.wrap .u32 r7), r8))
  else (if (p0 == 10) = true then (bind2 (ref01_Mod (IntKind.wrap .i32 p1) (IntKind.wrap .i32 p2)) fun r11 r12 =>
  some ((IntKind.wrap .u32 r11), r12))
  else (if (p0 == 11) = true then (some ((bitsOf .and .u32 p1 p2), true))
  else (if (p0 == 12) = true then (some ((bitsOf .or .u32 p1 p2), true))
  else (if (p0 == 13) = true then (some ((bitsOf .xor .u32 p1 p2), true))
  else (if (p0 == 14) = true then (bind1 (ref04_is (decide ((IntKind.wrap .i32 p1) < (IntKind.wrap .i32 p2)))) fun r18 =>
  some (r18, true))
  else (if (p0 == 15) = true then (bind1 (ref04_is (decide ((IntKind.wrap .i32 p1) ≤ (IntKind.wrap .i32 p2)))) fun r21 =>
  some (r21, true))
  else (if (p0 == 16) = true then (bind1 (ref04_is (p1 == p2)) fun r24 =>
  some (r24, true))
  else (if (p0 == 17) = true then (bind1 (ref04_is (p1 != p2)) fun r27 =>
  some (r27, true))
  else (some (0, true)))))))))))))
theorem ok_ref04_reckon (H : Heap) {p0 : Int} {p1 : Int} {p2 : Int} {ra : Int} {rb : Bool} (hF : ref04_reckon p0 p1 p2 = some (ra, rb)) : evS X 116 [.one .top (.int .i64 p0), .one .top (.int .u32 p1), .one .top (.int .u32 p2)] H = some (.tup [.one .top (.int .u32 ra), .one .top (.bool rb)], H) := by
  let E1 : EN := (0, .one .top (.int .i64 p0))
  let E2 : EN := (1, .one .top (.int .u32 p1))
  let E3 : EN := (2, .one .top (.int .u32 p2))
  let E4 : EN := (8, .one .top (.int .i32 (IntKind.wrap .i32 p1)))
  let E5 : EN := (9, .one .top (.int .i32 (IntKind.wrap .i32 p2)))
  let E6 : EN := (18, .one .top (.int .i64 p0))
  let E7 : EN := (7, .one .top (.bool true))
  let E9 : EN := (31, .one .top (.int .i32 (IntKind.wrap .i32 p1)))
  let E10 : EN := (32, .one .top (.int .i32 (IntKind.wrap .i32 p2)))
  let E13 : EN := (38, .one .top (.int .i32 (IntKind.wrap .i32 p1)))
  let E14 : EN := (39, .one .top (.int .i32 (IntKind.wrap .i32 p2)))
  let E18 : EN := (49, .one .top (.int .i32 (IntKind.wrap .i32 p1)))
  let E19 : EN := (50, .one .top (.int .i32 (IntKind.wrap .i32 p2)))
  let E22 : EN := (74, .one .top (.int .i32 (IntKind.wrap .i32 p1)))
  let E23 : EN := (75, .one .top (.int .i32 (IntKind.wrap .i32 p2)))
  let E24 : EN := (76, .one .top (.bool (decide ((IntKind.wrap .i32 p1) < (IntKind.wrap .i32 p2)))))
  let E27 : EN := (80, .one .top (.int .i32 (IntKind.wrap .i32 p1)))
  let E28 : EN := (81, .one .top (.int .i32 (IntKind.wrap .i32 p2)))
  let E29 : EN := (82, .one .top (.bool (decide ((IntKind.wrap .i32 p1) ≤ (IntKind.wrap .i32 p2)))))
  let E32 : EN := (86, .one .top (.int .u32 p1))
  let E33 : EN := (87, .one .top (.int .u32 p2))
  let E34 : EN := (88, .one .top (.bool (p1 == p2)))
  let E37 : EN := (92, .one .top (.int .u32 p1))
  let E38 : EN := (93, .one .top (.int .u32 p2))
  let E39 : EN := (94, .one .top (.bool (p1 != p2)))
  let S41 : St := ⟨[E2, E3, E4, E5, E6], [], H⟩
  let S42 : St := ⟨[E2, E3], [], H⟩
  let S43 : St := ⟨[E4, E5], [], H⟩
  let S44 : St := ⟨[E4, E5, E9, E10], [], H⟩
  let S45 : St := ⟨[E4, E5, E13, E14], [], H⟩
  let S46 : St := ⟨[E4, E5, E18, E19], [], H⟩
  let S47 : St := ⟨[E4, E5, E22, E23, E24], [], H⟩
  let S48 : St := ⟨[E4, E5, E27, E28, E29], [], H⟩
  let S49 : St := ⟨[E2, E3, E32, E33, E34], [], H⟩
  let S50 : St := ⟨[E2, E3, E37, E38, E39], [], H⟩
  refine w_fun Try.func116 rfl (by kernel_rfl) true (by kernel_rfl) (s0 := (⟨[E1, E2, E3], [], H⟩ : St)) (by kernel_rfl) ?_
  unfold ref04_reckon at hF
  refine w_seq ?_
  refine w_reg ⟨[E1, E2, E3], [], H⟩ (by kernel_rfl) ?_
  refine w_seq ?_
  refine w_reg ⟨[E1, E2, E3, E4, E5], [], H⟩ (by kernel_rfl) ?_
  refine w_seq ?_
  refine w_reg S41 (by kernel_rfl) ?_
  refine w_block ?_
  refine w_seq ?_
  refine w_reg ⟨[E2, E3, E4, E5, E6, (19, .one .top (.bool (p0 == 6)))], [], H⟩ (by kernel_rfl) ?_
  rcases if_inv hF with ⟨h1, hF⟩ | ⟨h1, hF⟩
  refine w_cT (m := .top) h1 (s1 := S42) (by kernel_rfl) (by kernel_rfl) ?_
  refine w_seq ?_
  refine w_reg ⟨[(6, .one .top (.int .u32 (IntKind.wrap .u32 (p1 + p2)))), E7], [], H⟩ (by kernel_rfl) ?_
  refine w_ret ?_
  obtain ⟨e0, e1⟩ := some2_inv hF
  subst e0
  subst e1
  exact fin_pure (v := .tup [.one .top (.int .u32 (IntKind.wrap .u32 (p1 + p2))), .one .top (.bool true)]) (by kernel_rfl) (by kernel_rfl) rfl (by kernel_rfl)
  refine w_cF (m := .top) h1 (s1 := S41) (by kernel_rfl) (by kernel_rfl) ?_
  refine w_seq ?_
  refine w_reg ⟨[E2, E3, E4, E5, E6, (24, .one .top (.bool (p0 == 7)))], [], H⟩ (by kernel_rfl) ?_
  rcases if_inv hF with ⟨h2, hF⟩ | ⟨h2, hF⟩
  refine w_cT (m := .top) h2 (s1 := S42) (by kernel_rfl) (by kernel_rfl) ?_
  refine w_seq ?_
  refine w_reg ⟨[(6, .one .top (.int .u32 (IntKind.wrap .u32 (p1 - p2)))), E7], [], H⟩ (by kernel_rfl) ?_
  refine w_ret ?_
  obtain ⟨e0, e1⟩ := some2_inv hF
  subst e0
  subst e1
  exact fin_pure (v := .tup [.one .top (.int .u32 (IntKind.wrap .u32 (p1 - p2))), .one .top (.bool true)]) (by kernel_rfl) (by kernel_rfl) rfl (by kernel_rfl)
  refine w_cF (m := .top) h2 (s1 := S41) (by kernel_rfl) (by kernel_rfl) ?_
  refine w_seq ?_
  refine w_reg ⟨[E2, E3, E4, E5, E6, (29, .one .top (.bool (p0 == 8)))], [], H⟩ (by kernel_rfl) ?_
  rcases if_inv hF with ⟨h3, hF⟩ | ⟨h3, hF⟩
  refine w_cT (m := .top) h3 (s1 := S43) (by kernel_rfl) (by kernel_rfl) ?_
  refine w_seq ?_
  obtain ⟨r4, c5, hF⟩ := bind1_inv hF
  let E8 : EN := (6, .one .top (.int .u32 (IntKind.wrap .u32 r4)))
  let E11 : EN := (33, .one .top (.int .i32 r4))
  refine w_regO ⟨[E8, E7], [], H⟩ ?_ ?_
  refine o_run 2 S44 (by kernel_rfl) (by kernel_rfl) ?_
  refine o_one ⟨[E4, E5, E9, E10, E11], [], H⟩ (st_call (d := (some 33)) (fz := false) (pure := true) (own := false) S44 (ok_ref01_Times H c5) (by kernel_rfl) (by kernel_rfl)) ?_
  refine o_run 3 ⟨[E8, E7, E4, E5, E9, E10, E11, (34, .one .top (.int .u32 (IntKind.wrap .u32 r4)))], [], H⟩ (by kernel_rfl) (by kernel_rfl) ?_
  exact o_end (by kernel_rfl) (by kernel_rfl)
  refine w_ret ?_
  obtain ⟨e0, e1⟩ := some2_inv hF
  subst e0
  subst e1
  exact fin_pure (v := .tup [.one .top (.int .u32 (IntKind.wrap .u32 r4)), .one .top (.bool true)]) (by kernel_rfl) (by kernel_rfl) rfl (by kernel_rfl)
  refine w_cF (m := .top) h3 (s1 := S41) (by kernel_rfl) (by kernel_rfl) ?_
  refine w_seq ?_
  refine w_reg ⟨[E2, E3, E4, E5, E6, (35, .one .top (.bool (p0 == 9)))], [], H⟩ (by kernel_rfl) ?_
  rcases if_inv hF with ⟨h6, hF⟩ | ⟨h6, hF⟩
  refine w_cT (m := .top) h6 (s1 := S43) (by kernel_rfl) (by kernel_rfl) ?_
  refine w_seq ?_
  obtain ⟨r7, r8, c9, hF⟩ := bind2_inv hF
  let E12 : EN := (10, .one .top (.int .i32 r7))
  let E15 : EN := (40, .tup [.one .top (.int .i32 r7), .one .top (.bool r8)])
  refine w_regO ⟨[E12, (11, .one .top (.bool r8))], [], H⟩ ?_ ?_
  refine o_run 2 S45 (by kernel_rfl) (by kernel_rfl) ?_
  refine o_one ⟨[E4, E5, E13, E14, E15], [], H⟩ (st_call (d := (some 40)) (fz := false) (pure := true) (own := false) S45 (ok_ref01_Div H c9) (by kernel_rfl) (by kernel_rfl)) ?_
  refine o_run 5 ⟨[E4, E5, E12, (11, .one .top (.bool r8)), (37, .tup [.one .top (.int .i32 r7), .one .top (.bool r8)]), E13, E14, E15, (41, .one .top (.int .i32 r7)), (42, .one .top (.bool r8))], [], H⟩ (by kernel_rfl) (by kernel_rfl) ?_
  exact o_end (by kernel_rfl) (by kernel_rfl)
  refine w_seq ?_
  refine w_reg ⟨[(6, .one .top (.int .u32 (IntKind.wrap .u32 r7))), (7, .one .top (.bool r8))], [], H⟩ (by kernel_rfl) ?_
  refine w_ret ?_
  obtain ⟨e0, e1⟩ := some2_inv hF
  subst e0
  subst e1
  exact fin_pure (v := .tup [.one .top (.int .u32 (IntKind.wrap .u32 r7)), .one .top (.bool r8)]) (by kernel_rfl) (by kernel_rfl) rfl (by kernel_rfl)
  refine w_cF (m := .top) h6 (s1 := S41) (by kernel_rfl) (by kernel_rfl) ?_
  refine w_seq ?_
  refine w_reg ⟨[E2, E3, E4, E5, E6, (46, .one .top (.bool (p0 == 10)))], [], H⟩ (by kernel_rfl) ?_
  rcases if_inv hF with ⟨h10, hF⟩ | ⟨h10, hF⟩
  refine w_cT (m := .top) h10 (s1 := S43) (by kernel_rfl) (by kernel_rfl) ?_
  refine w_seq ?_
  obtain ⟨r11, r12, c13, hF⟩ := bind2_inv hF
  let E16 : EN := (12, .one .top (.int .i32 r11))
  let E17 : EN := (13, .one .top (.bool r12))
  let E20 : EN := (51, .tup [.one .top (.int .i32 r11), .one .top (.bool r12)])
  refine w_regO ⟨[E16, E17], [], H⟩ ?_ ?_
  refine o_run 2 S46 (by kernel_rfl) (by kernel_rfl) ?_
  refine o_one ⟨[E4, E5, E18, E19, E20], [], H⟩ (st_call (d := (some 51)) (fz := false) (pure := true) (own := false) S46 (ok_ref01_Mod H c13) (by kernel_rfl) (by kernel_rfl)) ?_
  refine o_run 5 ⟨[E4, E5, E16, E17, (48, .tup [.one .top (.int .i32 r11), .one .top (.bool r12)]), E18, E19, E20, (52, .one .top (.int .i32 r11)), (53, .one .top (.bool r12))], [], H⟩ (by kernel_rfl) (by kernel_rfl) ?_
  exact o_end (by kernel_rfl) (by kernel_rfl)
  refine w_seq ?_
  refine w_reg ⟨[(6, .one .top (.int .u32 (IntKind.wrap .u32 r11))), (7, .one .top (.bool r12))], [], H⟩ (by kernel_rfl) ?_
  refine w_ret ?_
  obtain ⟨e0, e1⟩ := some2_inv hF
  subst e0
  subst e1
  exact fin_pure (v := .tup [.one .top (.int .u32 (IntKind.wrap .u32 r11)), .one .top (.bool r12)]) (by kernel_rfl) (by kernel_rfl) rfl (by kernel_rfl)
  refine w_cF (m := .top) h10 (s1 := S41) (by kernel_rfl) (by kernel_rfl) ?_
  refine w_seq ?_
  refine w_reg ⟨[E2, E3, E4, E5, E6, (57, .one .top (.bool (p0 == 11)))], [], H⟩ (by kernel_rfl) ?_
  rcases if_inv hF with ⟨h14, hF⟩ | ⟨h14, hF⟩
  refine w_cT (m := .top) h14 (s1 := S42) (by kernel_rfl) (by kernel_rfl) ?_
  refine w_seq ?_
  refine w_reg ⟨[(6, .one .top (.int .u32 (bitsOf .and .u32 p1 p2))), E7], [], H⟩ (by kernel_rfl) ?_
  refine w_ret ?_
  obtain ⟨e0, e1⟩ := some2_inv hF
  subst e0
  subst e1
  exact fin_pure (v := .tup [.one .top (.int .u32 (bitsOf .and .u32 p1 p2)), .one .top (.bool true)]) (by kernel_rfl) (by kernel_rfl) rfl (by kernel_rfl)
  refine w_cF (m := .top) h14 (s1 := S41) (by kernel_rfl) (by kernel_rfl) ?_
  refine w_seq ?_
  refine w_reg ⟨[E2, E3, E4, E5, E6, (62, .one .top (.bool (p0 == 12)))], [], H⟩ (by kernel_rfl) ?_
  rcases if_inv hF with ⟨h15, hF⟩ | ⟨h15, hF⟩
  refine w_cT (m := .top) h15 (s1 := S42) (by kernel_rfl) (by kernel_rfl) ?_
  refine w_seq ?_
  refine w_reg ⟨[(6, .one .top (.int .u32 (bitsOf .or .u32 p1 p2))), E7], [], H⟩ (by kernel_rfl) ?_
  refine w_ret ?_
  obtain ⟨e0, e1⟩ := some2_inv hF
  subst e0
  subst e1
  exact fin_pure (v := .tup [.one .top (.int .u32 (bitsOf .or .u32 p1 p2)), .one .top (.bool true)]) (by kernel_rfl) (by kernel_rfl) rfl (by kernel_rfl)
  refine w_cF (m := .top) h15 (s1 := S41) (by kernel_rfl) (by kernel_rfl) ?_
  refine w_seq ?_
  refine w_reg ⟨[E2, E3, E4, E5, E6, (67, .one .top (.bool (p0 == 13)))], [], H⟩ (by kernel_rfl) ?_
  rcases if_inv hF with ⟨h16, hF⟩ | ⟨h16, hF⟩
  refine w_cT (m := .top) h16 (s1 := S42) (by kernel_rfl) (by kernel_rfl) ?_
  refine w_seq ?_
  refine w_reg ⟨[(6, .one .top (.int .u32 (bitsOf .xor .u32 p1 p2))), E7], [], H⟩ (by kernel_rfl) ?_
  refine w_ret ?_
  obtain ⟨e0, e1⟩ := some2_inv hF
  subst e0
  subst e1
  exact fin_pure (v := .tup [.one .top (.int .u32 (bitsOf .xor .u32 p1 p2)), .one .top (.bool true)]) (by kernel_rfl) (by kernel_rfl) rfl (by kernel_rfl)
  refine w_cF (m := .top) h16 (s1 := S41) (by kernel_rfl) (by kernel_rfl) ?_
  refine w_seq ?_
  refine w_reg ⟨[E2, E3, E4, E5, E6, (72, .one .top (.bool (p0 == 14)))], [], H⟩ (by kernel_rfl) ?_
  rcases if_inv hF with ⟨h17, hF⟩ | ⟨h17, hF⟩
  refine w_cT (m := .top) h17 (s1 := S43) (by kernel_rfl) (by kernel_rfl) ?_
  refine w_seq ?_
  obtain ⟨r18, c19, hF⟩ := bind1_inv hF
  let E21 : EN := (6, .one .top (.int .u32 r18))
  let E25 : EN := (77, .one .top (.int .u32 r18))
  refine w_regO ⟨[E21, E7], [], H⟩ ?_ ?_
  refine o_run 3 S47 (by kernel_rfl) (by kernel_rfl) ?_
  refine o_one ⟨[E4, E5, E22, E23, E24, E25], [], H⟩ (st_call (d := (some 77)) (fz := false) (pure := true) (own := false) S47 (ok_ref04_is H c19) (by kernel_rfl) (by kernel_rfl)) ?_
  refine o_run 2 ⟨[E21, E7, E4, E5, E22, E23, E24, E25], [], H⟩ (by kernel_rfl) (by kernel_rfl) ?_
  exact o_end (by kernel_rfl) (by kernel_rfl)
  refine w_ret ?_
  obtain ⟨e0, e1⟩ := some2_inv hF
  subst e0
  subst e1
  exact fin_pure (v := .tup [.one .top (.int .u32 r18), .one .top (.bool true)]) (by kernel_rfl) (by kernel_rfl) rfl (by kernel_rfl)
  refine w_cF (m := .top) h17 (s1 := S41) (by kernel_rfl) (by kernel_rfl) ?_
  refine w_seq ?_
  refine w_reg ⟨[E2, E3, E4, E5, E6, (78, .one .top (.bool (p0 == 15)))], [], H⟩ (by kernel_rfl) ?_
  rcases if_inv hF with ⟨h20, hF⟩ | ⟨h20, hF⟩
  refine w_cT (m := .top) h20 (s1 := S43) (by kernel_rfl) (by kernel_rfl) ?_
  refine w_seq ?_
  obtain ⟨r21, c22, hF⟩ := bind1_inv hF
  let E26 : EN := (6, .one .top (.int .u32 r21))
  let E30 : EN := (83, .one .top (.int .u32 r21))
  refine w_regO ⟨[E26, E7], [], H⟩ ?_ ?_
  refine o_run 3 S48 (by kernel_rfl) (by kernel_rfl) ?_
  refine o_one ⟨[E4, E5, E27, E28, E29, E30], [], H⟩ (st_call (d := (some 83)) (fz := false) (pure := true) (own := false) S48 (ok_ref04_is H c22) (by kernel_rfl) (by kernel_rfl)) ?_
  refine o_run 2 ⟨[E26, E7, E4, E5, E27, E28, E29, E30], [], H⟩ (by kernel_rfl) (by kernel_rfl) ?_
  exact o_end (by kernel_rfl) (by kernel_rfl)
  refine w_ret ?_
  obtain ⟨e0, e1⟩ := some2_inv hF
  subst e0
  subst e1
  exact fin_pure (v := .tup [.one .top (.int .u32 r21), .one .top (.bool true)]) (by kernel_rfl) (by kernel_rfl) rfl (by kernel_rfl)
  refine w_cF (m := .top) h20 (s1 := (⟨[E2, E3, E6], [], H⟩ : St)) (by kernel_rfl) (by kernel_rfl) ?_
  refine w_seq ?_
  refine w_reg ⟨[E2, E3, E6, (84, .one .top (.bool (p0 == 16)))], [], H⟩ (by kernel_rfl) ?_
  rcases if_inv hF with ⟨h23, hF⟩ | ⟨h23, hF⟩
  refine w_cT (m := .top) h23 (s1 := S42) (by kernel_rfl) (by kernel_rfl) ?_
  refine w_seq ?_
  obtain ⟨r24, c25, hF⟩ := bind1_inv hF
  let E31 : EN := (6, .one .top (.int .u32 r24))
  let E35 : EN := (89, .one .top (.int .u32 r24))
  refine w_regO ⟨[E31, E7], [], H⟩ ?_ ?_
  refine o_run 3 S49 (by kernel_rfl) (by kernel_rfl) ?_
  refine o_one ⟨[E2, E3, E32, E33, E34, E35], [], H⟩ (st_call (d := (some 89)) (fz := false) (pure := true) (own := false) S49 (ok_ref04_is H c25) (by kernel_rfl) (by kernel_rfl)) ?_
  refine o_run 2 ⟨[E2, E3, E31, E7, E32, E33, E34, E35], [], H⟩ (by kernel_rfl) (by kernel_rfl) ?_
  exact o_end (by kernel_rfl) (by kernel_rfl)
  refine w_ret ?_
  obtain ⟨e0, e1⟩ := some2_inv hF
  subst e0
  subst e1
  exact fin_pure (v := .tup [.one .top (.int .u32 r24), .one .top (.bool true)]) (by kernel_rfl) (by kernel_rfl) rfl (by kernel_rfl)
  refine w_cF (m := .top) h23 (s1 := (⟨[E2, E3, E6], [], H⟩ : St)) (by kernel_rfl) (by kernel_rfl) ?_
  refine w_seq ?_
  refine w_reg ⟨[E2, E3, (90, .one .top (.bool (p0 == 17)))], [], H⟩ (by kernel_rfl) ?_
  rcases if_inv hF with ⟨h26, hF⟩ | ⟨h26, hF⟩
  refine w_cT (m := .top) h26 (s1 := S42) (by kernel_rfl) (by kernel_rfl) ?_
  refine w_seq ?_
  obtain ⟨r27, c28, hF⟩ := bind1_inv hF
  let E36 : EN := (6, .one .top (.int .u32 r27))
  let E40 : EN := (95, .one .top (.int .u32 r27))
  refine w_regO ⟨[E36, E7], [], H⟩ ?_ ?_
  refine o_run 3 S50 (by kernel_rfl) (by kernel_rfl) ?_
  refine o_one ⟨[E2, E3, E37, E38, E39, E40], [], H⟩ (st_call (d := (some 95)) (fz := false) (pure := true) (own := false) S50 (ok_ref04_is H c28) (by kernel_rfl) (by kernel_rfl)) ?_
  refine o_run 2 ⟨[E2, E3, E36, E7, E37, E38, E39, E40], [], H⟩ (by kernel_rfl) (by kernel_rfl) ?_
  exact o_end (by kernel_rfl) (by kernel_rfl)
  refine w_ret ?_
  obtain ⟨e0, e1⟩ := some2_inv hF
  subst e0
  subst e1
  exact fin_pure (v := .tup [.one .top (.int .u32 r27), .one .top (.bool true)]) (by kernel_rfl) (by kernel_rfl) rfl (by kernel_rfl)
  refine w_cF (m := .top) h26 (s1 := (⟨[], [], H⟩ : St)) (by kernel_rfl) (by kernel_rfl) ?_
  refine w_seq ?_
  refine w_reg ⟨[(6, .one .top (.int .u32 0)), E7], [], H⟩ (by kernel_rfl) ?_
  refine w_ret ?_
  obtain ⟨e0, e1⟩ := some2_inv hF
  subst e0
  subst e1
  exact fin_pure (v := .tup [.one .top (.int .u32 0), .one .top (.bool true)]) (by kernel_rfl) (by kernel_rfl) rfl (by kernel_rfl)
noncomputable def ref04_trap  (p0 : T_ref04_Cpu) (p1 : Int) : Option (T_ref04_Cpu) :=
  if (decide (p0.PC_ < p0.Guard_)) = true then (bind1 (ref04_fault p0 111) fun r2 =>
  some r2)
  else (some (T_ref04_Cpu.mk p0.R_ p0.Vector_ p0.PC_ p1 p0.State_ p0.Why_ p0.Steps_ p0.Taken_ p0.Out_ p0.Entry_ p0.Vector_ p0.Guard_ p0.Limit_ p0.Input_))
theorem ok_ref04_trap (H : Heap) {p0 : T_ref04_Cpu} {p1 : Int} {ra : T_ref04_Cpu} (hF : ref04_trap p0 p1 = some ra) : evS X 117 [.agg (m1_ref04_Cpu p0), .one .top (.int .u32 p1)] H = some (.agg (m1_ref04_Cpu ra), H) := by
  let E1 : EN := (1, .one .top (.int .u32 p1))
  let E2 : EN := (2, .one .top (.loc 2 0))
  let E3 : EN := (4, .one .top (.loc 4 0))
  let B4 : EB := (2, (m1_ref04_Cpu p0))
  let B5 : EB := (4, (List.replicate 19 (.top, .int .u32 0) ++ List.replicate 4 (.top, .int .i64 0) ++ [((.own 1), .sl 2 (List.map e_api_Event ([] : List T_api_Event)))] ++ List.replicate 4 (.top, .int .u32 0) ++ [((.own 1), .sl 1 (List.map (eI .i32) ([] : List Int)))]))
  let E6 : EN := (10, .agg (m1_ref04_Cpu p0))
  let S8 : St := ⟨[E1, E2, E3], [B4, B5], H⟩
  let S9 : St := ⟨[E2, E3, E6], [B4, B5], H⟩
  refine w_fun Try.func117 rfl (by kernel_rfl) true (by kernel_rfl) (s0 := (⟨[(0, .agg (m1_ref04_Cpu p0)), E1], [], H⟩ : St)) (by kernel_rfl) ?_
  unfold ref04_trap at hF
  refine w_seq ?_
  refine w_reg S8 (by kernel_rfl) ?_
  refine w_seq ?_
  refine w_seq ?_
  refine w_reg ⟨[E1, E2, E3, (9, .one .top (.bool (decide (p0.PC_ < p0.Guard_))))], [B4, B5], H⟩ (by kernel_rfl) ?_
  rcases if_inv hF with ⟨h1, hF⟩ | ⟨h1, hF⟩
  refine w_cT (m := .top) h1 (s1 := (⟨[E2, E3], [B4, B5], H⟩ : St)) (by kernel_rfl) (by kernel_rfl) ?_
  refine w_seq ?_
  obtain ⟨r2, c3, hF⟩ := bind1_inv hF
  let E7 : EN := (11, .agg (m1_ref04_Cpu r2))
  refine w_regO ⟨[E3], [(4, (m1_ref04_Cpu r2))], H⟩ ?_ ?_
  refine o_run 1 S9 (by kernel_rfl) (by kernel_rfl) ?_
  refine o_one ⟨[E2, E3, E6, E7], [B4, B5], H⟩ (st_call (d := (some 11)) (fz := false) (pure := true) (own := false) S9 (ok_ref04_fault H c3) (by kernel_rfl) (by kernel_rfl)) ?_
  refine o_run 1 ⟨[E2, E3, E6, E7], [B4, (4, (m1_ref04_Cpu r2))], H⟩ (by kernel_rfl) (by kernel_rfl) ?_
  exact o_end (by kernel_rfl) (by kernel_rfl)
  refine w_ret ?_
  obtain e0 := some1_inv hF
  subst e0
  exact fin_pure (v := .agg (m1_ref04_Cpu r2)) (by kernel_rfl) (by kernel_rfl) rfl (by kernel_rfl)
  refine w_cF (m := .top) h1 (s1 := S8) (by kernel_rfl) (by kernel_rfl) ?_
  refine w_skip ?_
  refine w_seq ?_
  refine w_reg ⟨[E2, E3], [(2, (arM .u32 16 p0.R_ ++ [(.top, .int .u32 p0.Vector_), (.top, .int .u32 p0.PC_), (.top, .int .u32 p1), (.top, .int .i64 p0.State_), (.top, .int .i64 p0.Why_), (.top, .int .i64 p0.Steps_), (.top, .int .i64 p0.Taken_), ((.own 0), .sl 2 (List.map e_api_Event p0.Out_)), (.top, .int .u32 p0.Entry_), (.top, .int .u32 p0.Vector_), (.top, .int .u32 p0.Guard_), (.top, .int .u32 p0.Limit_), ((.own 0), .sl 1 (List.map (eI .i32) p0.Input_))])), B5], H⟩ (by kernel_rfl) ?_
  refine w_seq ?_
  refine w_reg ⟨[E3], [(4, (arM .u32 16 p0.R_ ++ [(.top, .int .u32 p0.Vector_), (.top, .int .u32 p0.PC_), (.top, .int .u32 p1), (.top, .int .i64 p0.State_), (.top, .int .i64 p0.Why_), (.top, .int .i64 p0.Steps_), (.top, .int .i64 p0.Taken_), ((.own 0), .sl 2 (List.map e_api_Event p0.Out_)), (.top, .int .u32 p0.Entry_), (.top, .int .u32 p0.Vector_), (.top, .int .u32 p0.Guard_), (.top, .int .u32 p0.Limit_), ((.own 0), .sl 1 (List.map (eI .i32) p0.Input_))]))], H⟩ (by kernel_rfl) ?_
  refine w_ret ?_
  obtain e0 := some1_inv hF
  subst e0
  exact fin_pure (v := .agg (arM .u32 16 p0.R_ ++ [(.top, .int .u32 p0.Vector_), (.top, .int .u32 p0.PC_), (.top, .int .u32 p1), (.top, .int .i64 p0.State_), (.top, .int .i64 p0.Why_), (.top, .int .i64 p0.Steps_), (.top, .int .i64 p0.Taken_), ((.own 0), .sl 2 (List.map e_api_Event p0.Out_)), (.top, .int .u32 p0.Entry_), (.top, .int .u32 p0.Vector_), (.top, .int .u32 p0.Guard_), (.top, .int .u32 p0.Limit_), ((.own 0), .sl 1 (List.map (eI .i32) p0.Input_))])) (by kernel_rfl) (by kernel_rfl) rfl (by kernel_rfl)
theorem ok_ref03_with_2 (H : Heap) {p0 : T_ref03_Mem} {p1 : Int} {p2 : (List Int)} {ra : T_ref03_Mem} (hF : ref03_with p0 p1 p2 = some ra) : evS X 94 [.agg (m0_ref03_Mem p0), .one .top (.int .i64 p1), .one (.own 1) (.sl 1 (List.map (eI .u32) p2))] H = some (.agg (m0_ref03_Mem ra), H) := by
  let E1 : EN := (1, .one .top (.int .i64 p1))
  let E2 : EN := (2, .one (.own 1) (.sl 1 (List.map (eI .u32) p2)))
  let E3 : EN := (3, .one .top (.loc 3 0))
  let E4 : EN := (6, .one .top (.loc 6 0))
  let B5 : EB := (3, (m0_ref03_Mem p0))
  let B6 : EB := (6, (List.replicate 5 (.top, .int .u32 0) ++ [((.own 1), .sl 1 (List.map (eI .u32) ([] : List Int)))]))
  let E8 : EN := (9, .one .top (.loc 3 5))
  let E9 : EN := (10, .one (.own 0) (.sl 1 (List.map (eI .u32) p0.W_)))
  let E10 : EN := (11, .one .top (.int .i64 (p0.W_.length : Int)))
  let E13 : EN := (14, .one .top (.loc 3 5))
  let E14 : EN := (15, .one (.own 0) (.sl 1 (List.map (eI .u32) p0.W_)))
  let E19 : EN := (18, .one .bl (.sl 1 (List.map (eI .u32) p2)))
  let E20 : EN := (19, .one .top (.int .i64 (p2.length : Int)))
  let E23 : EN := (24, .one .top (.int .i64 p1))
  let E26 : EN := (27, .one .bl (.sl 1 (List.map (eI .u32) p2)))
  let S31 : St := ⟨[E1, E2, E3, E4, E8, E9], [B5, B6], H⟩
  let S32 : St := ⟨[E1, E2, E3, E4, E8, E9, E10], [B5, B6], H⟩
  refine w_fun Try.func94 rfl (by kernel_rfl) true (by kernel_rfl) (s0 := (⟨[(0, .agg (m0_ref03_Mem p0)), E1, E2], [], H⟩ : St)) (by kernel_rfl) ?_
  unfold ref03_with at hF
  refine w_seq ?_
  refine w_reg ⟨[E1, E2, E3, E4], [B5, B6], H⟩ (by kernel_rfl) ?_
  refine w_seq ?_
  obtain ⟨v1, h2, hF⟩ := bind1_inv hF
  let E7 : EN := (7, .one (.own 1) (.sl 1 (List.map (eI .u32) v1)))
  let E12 : EN := (13, .one .top (.at_ (.tmp 7) 0 ((List.map (eI .u32) v1).length)))
  let S33 : St := ⟨[E1, E2, E3, E4, E7, E12, E13, E14], [B5, B6], H⟩
  refine w_regO ⟨[E1, E2, E3, E4, E7], [B5, B6], H⟩ ?_ ?_
  refine o_run 2 S31 (by kernel_rfl) (by kernel_rfl) ?_
  refine o_one S32 (st_len S31 p0.W_ (eI .u32) (some 11) (by kernel_rfl) (by kernel_rfl)) ?_
  refine o_one ⟨[E1, E2, E3, E4, E8, E9, E10, (12, .one (.own 1) (.sl 1 (List.map (eI .u32) v1)))], [B5, B6], H⟩ (st_mk (X := X) S32 4 h2 42 35 1 [(.top, .int .u32 0)] (eI .u32) 0 (.i64) (.i64) (some 12) (by kernel_rfl) (by kernel_rfl) (by kernel_rfl) (by kernel_rfl) (by kernel_rfl) (by kernel_rfl) (by kernel_rfl) (by kernel_rfl) (by kernel_rfl) (by kernel_rfl)) ?_
  refine o_run 1 ⟨[E1, E2, E3, E4, E7, E8, E9, E10, (12, .one .top .junk)], [B5, B6], H⟩ (by kernel_rfl) (by kernel_rfl) ?_
  exact o_end (by kernel_rfl) (by kernel_rfl)
  refine w_seq ?_
  obtain ⟨v3, h4, hF⟩ := bnd_inv hF
  let E11 : EN := (7, .one (.own 1) (.sl 1 (List.map (eI .u32) v3)))
  refine w_regO ⟨[E1, E2, E3, E4, E11], [B5, B6], H⟩ ?_ ?_
  refine o_run 3 S33 (by kernel_rfl) (by kernel_rfl) ?_
  refine o_one ⟨[E1, E2, E3, E4, E11, E12, E13, E14, (16, .one .top (.int .i64 (((min p0.W_.length (v1.length - 0) : Nat)) : Int)))], [B5, B6], H⟩ (st_cpT (X := X) S33 42 35 0 1 (eI .u32) 7 (.own 0) v1 p0.W_ 0 h4 (some 16) ⟨true, []⟩ (Nat.zero_le _) (by kernel_rfl) (by kernel_rfl) (by kernel_rfl) (fun _ => rfl) (fun _ => rfl) (by kernel_rfl) (by kernel_rfl)) ?_
  exact o_end (by kernel_rfl) (by kernel_rfl)
  refine w_seq ?_
  refine w_seq ?_
  refine w_reg ⟨[E1, E2, E3, E4, E11, (8, .one .top (.int .i64 0))], [B5, B6], H⟩ (by kernel_rfl) ?_
  refine w_block ?_
  obtain ⟨r14, hL15, hF⟩ := bind1_inv hF
  refine w_loop (fun (x : ((List Int) × Int)) => (⟨[E1, E2, E3, E4, (7, .one (.own 1) (.sl 1 (List.map (eI .u32) x.1))), (8, .one .top (.int .i64 x.2))], [B5, B6], H⟩ : St)) (fun (y : ((List Int))) => ((.exit 0, (⟨[E3, E4, (7, .one (.own 1) (.sl 1 (List.map (eI .u32) y)))], [B5, B6], H⟩ : St)) : Ex × St)) hL15 (by kernel_rfl) ?_ ?_
  rintro ⟨a5, a6⟩ o hF
  replace hF : ref03_with_L1 p2 p1 a5 a6 = some o := hF
  let E15 : EN := (7, .one (.own 1) (.sl 1 (List.map (eI .u32) a5)))
  let E16 : EN := (8, .one .top (.int .i64 a6))
  let E17 : EN := (20, .one .top (.bool (decide (a6 < (p2.length : Int)))))
  let E18 : EN := (17, .one .top (.int .i64 a6))
  let E22 : EN := (23, .one .top (.at_ (.tmp 7) 0 ((List.map (eI .u32) a5).length)))
  let E24 : EN := (25, .one .top (.int .i64 a6))
  let E25 : EN := (26, .one .top (.int .i64 (IntKind.wrap .i64 (p1 + a6))))
  let E27 : EN := (28, .one .top (.int .i64 a6))
  let E30 : EN := (31, .one .top (.el (.tmp 7) (Int.toNat (IntKind.wrap .i64 (p1 + a6))) 0))
  let S34 : St := ⟨[E1, E2, E3, E4, E15, E16, E18, E19], [B5, B6], H⟩
  let S35 : St := ⟨[E1, E2, E3, E4, E15, E16, E22, E23, E24, E25, E26, E27], [B5, B6], H⟩
  unfold ref03_with_L1 at hF
  refine w_seq ?_
  refine w_seq ?_
  refine w_regO ⟨[E1, E2, E3, E4, E15, E16, E17], [B5, B6], H⟩ ?_ ?_
  refine o_run 2 S34 (by kernel_rfl) (by kernel_rfl) ?_
  refine o_one ⟨[E1, E2, E3, E4, E15, E16, E18, E19, E20], [B5, B6], H⟩ (st_len S34 p2 (eI .u32) (some 19) (by kernel_rfl) (by kernel_rfl)) ?_
  refine o_run 1 ⟨[E1, E2, E3, E4, E15, E16, E18, E19, E20, E17], [B5, B6], H⟩ (by kernel_rfl) (by kernel_rfl) ?_
  exact o_end (by kernel_rfl) (by kernel_rfl)
  rcases if_inv hF with ⟨h7, hF⟩ | ⟨h7, hF⟩
  refine w_cT (m := .top) h7 (s1 := (⟨[E1, E2, E3, E4, E15, E16], [B5, B6], H⟩ : St)) (by kernel_rfl) (by kernel_rfl) ?_
  refine w_skip ?_
  refine w_seq ?_
  refine w_block ?_
  obtain ⟨x8, h9, hF⟩ := bind1_inv hF
  let E28 : EN := (29, .one .top (.rd .bl .bl [.int .u32 x8] 0))
  let E29 : EN := (30, .one .top (.int .u32 x8))
  let S36 : St := ⟨[E1, E2, E3, E4, E15, E16, E22, E23, E24, E25, E26, E27, E28, E29], [B5, B6], H⟩
  let S37 : St := ⟨[E1, E2, E3, E4, E15, E16, E22, E23, E24, E25, E26, E27, E28, E29, E30], [B5, B6], H⟩
  obtain ⟨x10, h11, hF⟩ := bind1_inv hF
  obtain ⟨v12, h13, hF⟩ := bind1_inv hF
  let E21 : EN := (7, .one (.own 1) (.sl 1 (List.map (eI .u32) v12)))
  refine w_regO ⟨[E1, E2, E3, E4, E21, E16], [B5, B6], H⟩ ?_ ?_
  refine o_run 6 S35 (by kernel_rfl) (by kernel_rfl) ?_
  refine o_one ⟨[E1, E2, E3, E4, E15, E16, E22, E23, E24, E25, E26, E27, E28], [B5, B6], H⟩ (st_ix (X := X) S35 42 35 1 h9 (eI .u32) .bl (some 29) (by kernel_rfl) (by kernel_rfl) (by kernel_rfl) (by kernel_rfl)) ?_
  refine o_run 1 S36 (by kernel_rfl) (by kernel_rfl) ?_
  refine o_one S37 (st_ixA (X := X) S36 42 35 1 h11 (eI .u32) (.tmp 7) 0 (List.map (eI .u32) a5).length 0 (some 31) (by kernel_rfl) (by kernel_rfl) (by kernel_rfl) (by kernel_rfl) rfl (List.length_map _) (by kernel_rfl)) ?_
  refine o_one ⟨[E1, E2, E3, E4, E21, E16, E22, E23, E24, E25, (27, .one .top .junk), E27, (29, .one .top .junk), E29, E30], [B5, B6], H⟩ (st_stE (X := X) S37 (⟨[E1, E2, E3, E4, E21, E16, E22, E23, E24, E25, E26, E27, E28, E29, E30], [B5, B6], H⟩ : St) ⟨true, []⟩ 35 (.tmp 7) (Int.toNat (IntKind.wrap .i64 (p1 + a6))) 0 1 0 (List.map (eI .u32) a5) [.int .u32 x10] ((eI .u32) x8) (List.map (eI .u32) v12) 1 (.one .top (.int .u32 x8)) (by kernel_rfl) (by kernel_rfl) (by kernel_rfl) (by kernel_rfl) (by kernel_rfl) (by kernel_rfl) (el_at h11) (by kernel_rfl) (by kernel_rfl) (el_put h13) (by kernel_rfl) (by kernel_rfl)) ?_
  exact o_end (by kernel_rfl) (by kernel_rfl)
  refine w_reg ⟨[E1, E2, E3, E4, E21, (8, .one .top (.int .i64 (IntKind.wrap .i64 (a6 + 1))))], [B5, B6], H⟩ (by kernel_rfl) ?_
  cases hF
  exact ⟨_, rfl, (by kernel_rfl)⟩
  refine w_cF (m := .top) h7 (s1 := (⟨[E3, E4, E15], [B5, B6], H⟩ : St)) (by kernel_rfl) (by kernel_rfl) ?_
  refine w_exit ?_
  cases hF
  exact ⟨_, rfl, (by kernel_rfl)⟩
  obtain ⟨b16, hy⟩ : ∃ y, y = r14 := ⟨_, rfl⟩
  subst hy
  refine w_oe (i := 0) (s := (⟨[E3, E4, (7, .one (.own 1) (.sl 1 (List.map (eI .u32) b16)))], [B5, B6], H⟩ : St)) (by kernel_rfl) ?_
  refine e_here ?_
  refine w_seq ?_
  refine w_reg ⟨[E3, E4], [(3, (arM .u32 5 p0.Ends_ ++ [((.own 1), .sl 1 (List.map (eI .u32) b16))])), B6], H⟩ (by kernel_rfl) ?_
  refine w_seq ?_
  refine w_reg ⟨[E4], [(6, (arM .u32 5 p0.Ends_ ++ [((.own 1), .sl 1 (List.map (eI .u32) b16))]))], H⟩ (by kernel_rfl) ?_
  refine w_ret ?_
  obtain e0 := some1_inv hF
  subst e0
  exact fin_pure (v := .agg (arM .u32 5 p0.Ends_ ++ [((.own 1), .sl 1 (List.map (eI .u32) b16))])) (by kernel_rfl) (by kernel_rfl) rfl (by kernel_rfl)
noncomputable def ref03_Store  (p0 : T_ref03_Mem) (p1 : Int) (p2 : Int) : Option (T_ref03_Mem × Int) :=
  bind2 (ref03_Load p0 p1) fun r1 r2 =>
  if (r2 != 0) = true then (some (p0, r2))
  else (if (decide (p1 < (p0.Ends_.g 1))) = true then (some (p0, 32))
  else (bind1 (ref03_with p0 (IntKind.wrap .i64 (IntKind.wrap .u32 (Int.tdiv p1 4))) ([p2] : List Int)) fun r6 =>
  some (r6, 0)))
theorem ok_ref03_Store (H : Heap) {p0 : T_ref03_Mem} {p1 : Int} {p2 : Int} {ra : T_ref03_Mem} {rb : Int} (hF : ref03_Store p0 p1 p2 = some (ra, rb)) : evS X 118 [.agg (m0_ref03_Mem p0), .one .top (.int .u32 p1), .one .top (.int .u32 p2)] H = some (.tup [.agg (m0_ref03_Mem ra), .one .top (.int .i64 rb)], H) := by
  let E1 : EN := (1, .one .top (.int .u32 p1))
  let E2 : EN := (2, .one .top (.int .u32 p2))
  let E3 : EN := (3, .one .top (.loc 3 0))
  let E4 : EN := (6, .one .top (.loc 6 0))
  let B5 : EB := (3, (m0_ref03_Mem p0))
  let B6 : EB := (6, (List.replicate 5 (.top, .int .u32 0) ++ [((.own 1), .sl 1 (List.map (eI .u32) ([] : List Int)))]))
  let E8 : EN := (11, .agg (m0_ref03_Mem p0))
  let E9 : EN := (12, .one .top (.int .u32 p1))
  let E11 : EN := (7, .one .top (.int .i64 0))
  let E12 : EN := (26, .agg (m0_ref03_Mem p0))
  let E13 : EN := (27, .one .top (.int .u32 p1))
  let E14 : EN := (28, .one .top (.int .u32 (IntKind.wrap .u32 (Int.tdiv p1 4))))
  let E15 : EN := (29, .one .top (.int .i64 (IntKind.wrap .i64 (IntKind.wrap .u32 (Int.tdiv p1 4)))))
  let E16 : EN := (30, .one .top (.int .u32 p2))
  let E17 : EN := (31, .one .top .junk)
  let S19 : St := ⟨[E1, E2, E3, E4], [B5, B6], H⟩
  let S20 : St := ⟨[E1, E2, E3, E4, E8, E9], [B5, B6], H⟩
  refine w_fun Try.func118 rfl (by kernel_rfl) true (by kernel_rfl) (s0 := (⟨[(0, .agg (m0_ref03_Mem p0)), E1, E2], [], H⟩ : St)) (by kernel_rfl) ?_
  unfold ref03_Store at hF
  refine w_seq ?_
  refine w_reg S19 (by kernel_rfl) ?_
  refine w_seq ?_
  refine w_seq ?_
  obtain ⟨r1, r2, c3, hF⟩ := bind2_inv hF
  let E7 : EN := (9, .one .top (.int .i64 r2))
  let E10 : EN := (13, .tup [.one .top (.int .u32 r1), .one .top (.int .i64 r2)])
  refine w_regO ⟨[E1, E2, E3, E4, E7], [B5, B6], H⟩ ?_ ?_
  refine o_run 2 S20 (by kernel_rfl) (by kernel_rfl) ?_
  refine o_one ⟨[E1, E2, E3, E4, E8, E9, E10], [B5, B6], H⟩ (st_call (d := (some 13)) (fz := false) (pure := true) (own := false) S20 (ok_ref03_Load H c3) (by kernel_rfl) (by kernel_rfl)) ?_
  refine o_run 5 ⟨[E1, E2, E3, E4, (8, .one .top (.int .u32 r1)), E7, (10, .tup [.one .top (.int .u32 r1), .one .top (.int .i64 r2)]), E8, E9, E10, (14, .one .top (.int .u32 r1)), (15, .one .top (.int .i64 r2))], [B5, B6], H⟩ (by kernel_rfl) (by kernel_rfl) ?_
  exact o_end (by kernel_rfl) (by kernel_rfl)
  refine w_seq ?_
  refine w_reg ⟨[E1, E2, E3, E4, E7, (17, .one .top (.bool (r2 != 0)))], [B5, B6], H⟩ (by kernel_rfl) ?_
  rcases if_inv hF with ⟨h4, hF⟩ | ⟨h4, hF⟩
  refine w_cT (m := .top) h4 (s1 := (⟨[E3, E4, E7], [B5, B6], H⟩ : St)) (by kernel_rfl) (by kernel_rfl) ?_
  refine w_seq ?_
  refine w_reg ⟨[E4, (7, .one .top (.int .i64 r2))], [(6, (m0_ref03_Mem p0))], H⟩ (by kernel_rfl) ?_
  refine w_ret ?_
  obtain ⟨e0, e1⟩ := some2_inv hF
  subst e0
  subst e1
  exact fin_pure (v := .tup [.agg (m0_ref03_Mem p0), .one .top (.int .i64 r2)]) (by kernel_rfl) (by kernel_rfl) rfl (by kernel_rfl)
  refine w_cF (m := .top) h4 (s1 := S19) (by kernel_rfl) (by kernel_rfl) ?_
  refine w_skip ?_
  refine w_seq ?_
  refine w_seq ?_
  refine w_reg ⟨[E1, E2, E3, E4, (24, .one .top (.bool (decide (p1 < (p0.Ends_.g 1)))))], [B5, B6], H⟩ (by kernel_rfl) ?_
  rcases if_inv hF with ⟨h5, hF⟩ | ⟨h5, hF⟩
  refine w_cT (m := .top) h5 (s1 := (⟨[E3, E4], [B5, B6], H⟩ : St)) (by kernel_rfl) (by kernel_rfl) ?_
  refine w_seq ?_
  refine w_reg ⟨[E4, (7, .one .top (.int .i64 32))], [(6, (m0_ref03_Mem p0))], H⟩ (by kernel_rfl) ?_
  refine w_ret ?_
  obtain ⟨e0, e1⟩ := some2_inv hF
  subst e0
  subst e1
  exact fin_pure (v := .tup [.agg (m0_ref03_Mem p0), .one .top (.int .i64 32)]) (by kernel_rfl) (by kernel_rfl) rfl (by kernel_rfl)
  refine w_cF (m := .top) h5 (s1 := S19) (by kernel_rfl) (by kernel_rfl) ?_
  refine w_skip ?_
  refine w_seq ?_
  obtain ⟨r6, c7, hF⟩ := bind1_inv hF
  let E18 : EN := (32, .agg (m0_ref03_Mem r6))
  refine w_regO ⟨[E4, E11], [(6, (m0_ref03_Mem r6))], H⟩ ?_ ?_
  refine o_run 6 ⟨[E1, E2, E3, E4, E12, E13, E14, E15, E16, (31, .one (.own 1) (.sl 1 (List.map (eI .u32) ([p2] : List Int))))], [B5, B6], H⟩ (by kernel_rfl) (by kernel_rfl) ?_
  refine o_one ⟨[E1, E2, E3, E4, E12, E13, E14, E15, E16, E17, E18], [B5, B6], H⟩ (st_call (d := (some 32)) (fz := false) (pure := true) (own := true) (⟨[E1, E2, E3, E4, E12, E13, E14, E15, E16, E17], [B5, B6], H⟩ : St) (ok_ref03_with_2 H c7) (by kernel_rfl) (by kernel_rfl)) ?_
  refine o_run 2 ⟨[E1, E2, E3, E4, E11, E12, E13, E14, E15, E16, E17, E18], [B5, (6, (m0_ref03_Mem r6))], H⟩ (by kernel_rfl) (by kernel_rfl) ?_
  exact o_end (by kernel_rfl) (by kernel_rfl)
  refine w_ret ?_
  obtain ⟨e0, e1⟩ := some2_inv hF
  subst e0
  subst e1
  exact fin_pure (v := .tup [.agg (m0_ref03_Mem r6), .one .top (.int .i64 0)]) (by kernel_rfl) (by kernel_rfl) rfl (by kernel_rfl)
noncomputable def ref04_others_j1 (j1 : Int) (j2 : T_ref04_Cpu) : Option (T_ref04_Cpu) :=
  some (T_ref04_Cpu.mk j2.R_ j1 j2.EPC_ j2.Cause_ j2.State_ j2.Why_ j2.Steps_ j2.Taken_ j2.Out_ j2.Entry_ j2.Vector_ j2.Guard_ j2.Limit_ j2.Input_)
noncomputable def ref04_others_j2 (j4 : Int) (j5 : T_ref04_Cpu) : Option (T_ref04_Cpu) :=
  ref04_others_j1 j4 j5
noncomputable def ref04_others_j3 (p0 : T_ref04_Cpu) (j7 : T_ref04_Cpu) : Option (T_ref04_Cpu) :=
  ref04_others_j2 (IntKind.wrap .u32 (p0.PC_ + 4)) j7
noncomputable def ref04_others_j4 (p0 : T_ref04_Cpu) (j12 : T_ref04_Cpu) : Option (T_ref04_Cpu) :=
  ref04_others_j3 p0 j12
noncomputable def ref04_others_j5 (p0 : T_ref04_Cpu) (j23 : T_ref04_Cpu) : Option (T_ref04_Cpu) :=
  ref04_others_j4 p0 j23
noncomputable def ref04_others_j6 (p0 : T_ref04_Cpu) (j29 : T_ref04_Cpu) : Option (T_ref04_Cpu) :=
  ref04_others_j5 p0 j29
noncomputable def ref04_others_j7 (p0 : T_ref04_Cpu) (j40 : T_ref04_Cpu) : Option (T_ref04_Cpu) :=
  ref04_others_j6 p0 j40
noncomputable def ref04_others_j8 (p0 : T_ref04_Cpu) (j45 : T_ref04_Cpu) : Option (T_ref04_Cpu) :=
  ref04_others_j7 p0 j45
noncomputable def ref04_others_j9 (p0 : T_ref04_Cpu) (j54 : T_ref04_Cpu) : Option (T_ref04_Cpu) :=
  ref04_others_j8 p0 j54
noncomputable def ref04_others  (p0 : T_ref04_Cpu) (p1 : T_ref02_Instr) (p2 : Int) : Option (T_ref04_Cpu) :=
  if (p1.Op_ == 24) = true then (ref04_others_j1 p2 p0)
  else (if (p1.Op_ == 25) = true then (ref04_others_j2 p2 (T_ref04_Cpu.mk (arrL [(p0.R_.g 0), (p0.R_.g 1), (p0.R_.g 2), (p0.R_.g 3), (p0.R_.g 4), (p0.R_.g 5), (p0.R_.g 6), (p0.R_.g 7), (p0.R_.g 8), (p0.R_.g 9), (p0.R_.g 10), (p0.R_.g 11), (p0.R_.g 12), (p0.R_.g 13), (IntKind.wrap .u32 (p0.PC_ + 4)), (p0.R_.g 15)] : Arr 16 Int) p0.PC_ p0.EPC_ p0.Cause_ p0.State_ p0.Why_ p0.Steps_ p0.Taken_ p0.Out_ p0.Entry_ p0.Vector_ p0.Guard_ p0.Limit_ p0.Input_))
  else (if (p1.Op_ == 26) = true then (if (decide (p2 ≥ (IntKind.wrap .u32 p1.Imm_))) = true then (bind1 (ref04_trap p0 (IntKind.wrap .u32 p1.B_)) fun r10 =>
  some r10)
  else (ref04_others_j3 p0 p0))
  else (if (p1.Op_ == 27) = true then (if (p2 == 0) = true then (bind1 (ref04_trap p0 2) fun r15 =>
  some r15)
  else (ref04_others_j4 p0 p0))
  else (if (p1.Op_ == 28) = true then (bind1 (ref04_trap p0 (IntKind.wrap .u32 p1.Imm_)) fun r18 =>
  some r18)
  else (if (p1.Op_ == 29) = true then (bind1 (ref04_trap p0 p2) fun r21 =>
  some r21)
  else (if (p1.Op_ == 30) = true then (bind1 (app 16 ([] : List T_api_Event) p0.Out_) fun v25 =>
  bind1 (app 16 v25 ([(T_api_Event.mk p1.Imm_ (IntKind.wrap .i32 p2))] : List T_api_Event)) fun v27 =>
  ref04_others_j5 p0 (T_ref04_Cpu.mk p0.R_ p0.PC_ p0.EPC_ p0.Cause_ p0.State_ p0.Why_ p0.Steps_ p0.Taken_ v27 p0.Entry_ p0.Vector_ p0.Guard_ p0.Limit_ p0.Input_))
  else (if (p1.Op_ == 31) = true then (if (decide (p0.Taken_ ≥ (p0.Input_.length : Int))) = true then (bind1 (ref04_trap p0 7) fun r32 =>
  some r32)
  else (bind1 (gi p0.Input_ p0.Taken_) fun x34 =>
  bind1 (ga p0.R_ p1.A_) fun v36 =>
  bind1 (sa p0.R_ p1.A_ (IntKind.wrap .u32 x34)) fun v38 =>
  ref04_others_j6 p0 (T_ref04_Cpu.mk v38 p0.PC_ p0.EPC_ p0.Cause_ p0.State_ p0.Why_ p0.Steps_ (IntKind.wrap .i64 (p0.Taken_ + 1)) p0.Out_ p0.Entry_ p0.Vector_ p0.Guard_ p0.Limit_ p0.Input_)))
  else (if (p1.Op_ == 32) = true then (if (decide ((IntKind.wrap .i32 p2) < (IntKind.wrap .i32 p0.Limit_))) = true then (bind1 (ref04_trap p0 5) fun r43 =>
  some r43)
  else (ref04_others_j7 p0 p0))
  else (if (p1.Op_ == 33) = true then (if (decide (p1.Imm_ > 1)) = true then (bind1 (ref04_fault p0 20) fun r48 =>
  some r48)
  else (bind1 (ga p0.R_ p1.A_) fun v50 =>
  bind1 (sa p0.R_ p1.A_ p0.EPC_) fun v52 =>
  if (p1.Imm_ == 1) = true then (bind1 (ga v52 p1.A_) fun v56 =>
  bind1 (sa v52 p1.A_ p0.Cause_) fun v58 =>
  ref04_others_j9 p0 (T_ref04_Cpu.mk v58 p0.PC_ p0.EPC_ p0.Cause_ p0.State_ p0.Why_ p0.Steps_ p0.Taken_ p0.Out_ p0.Entry_ p0.Vector_ p0.Guard_ p0.Limit_ p0.Input_))
  else (ref04_others_j9 p0 (T_ref04_Cpu.mk v52 p0.PC_ p0.EPC_ p0.Cause_ p0.State_ p0.Why_ p0.Steps_ p0.Taken_ p0.Out_ p0.Entry_ p0.Vector_ p0.Guard_ p0.Limit_ p0.Input_))))
  else (ref04_others_j8 p0 p0))))))))))
theorem ok_ref04_others (H : Heap) {p0 : T_ref04_Cpu} {p1 : T_ref02_Instr} {p2 : Int} {ra : T_ref04_Cpu} (hF : ref04_others p0 p1 p2 = some ra) : evS X 119 [.agg (m1_ref04_Cpu p0), .agg (m0_ref02_Instr p1), .one .top (.int .u32 p2)] H = some (.agg (m1_ref04_Cpu ra), H) := by
  let E1 : EN := (2, .one .top (.int .u32 p2))
  let E2 : EN := (3, .one .top (.loc 3 0))
  let E3 : EN := (4, .one .top (.loc 4 0))
  let E4 : EN := (6, .one .top (.loc 6 0))
  let B5 : EB := (3, (m1_ref04_Cpu p0))
  let B6 : EB := (4, (m0_ref02_Instr p1))
  let B7 : EB := (6, (List.replicate 19 (.top, .int .u32 0) ++ List.replicate 4 (.top, .int .i64 0) ++ [((.own 1), .sl 2 (List.map e_api_Event ([] : List T_api_Event)))] ++ List.replicate 4 (.top, .int .u32 0) ++ [((.own 1), .sl 1 (List.map (eI .i32) ([] : List Int)))]))
  let E8 : EN := (7, .one .top (.int .u32 (IntKind.wrap .u32 (p0.PC_ + 4))))
  let E9 : EN := (12, .one .top (.int .i64 p1.Op_))
  let E10 : EN := (7, .one .top (.int .u32 p2))
  let B11 : EB := (3, (arM .u32 14 p0.R_ ++ [(.top, .int .u32 (IntKind.wrap .u32 (p0.PC_ + 4))), (.top, .int .u32 (p0.R_.g 15)), (.top, .int .u32 p0.PC_), (.top, .int .u32 p0.EPC_), (.top, .int .u32 p0.Cause_), (.top, .int .i64 p0.State_), (.top, .int .i64 p0.Why_), (.top, .int .i64 p0.Steps_), (.top, .int .i64 p0.Taken_), ((.own 0), .sl 2 (List.map e_api_Event p0.Out_)), (.top, .int .u32 p0.Entry_), (.top, .int .u32 p0.Vector_), (.top, .int .u32 p0.Guard_), (.top, .int .u32 p0.Limit_), ((.own 0), .sl 1 (List.map (eI .i32) p0.Input_))]))
  let E12 : EN := (29, .agg (m1_ref04_Cpu p0))
  let E13 : EN := (30, .one .top (.loc 4 2))
  let E14 : EN := (31, .one .top (.int .i64 p1.B_))
  let E15 : EN := (32, .one .top (.int .u32 (IntKind.wrap .u32 p1.B_)))
  let E17 : EN := (38, .agg (m1_ref04_Cpu p0))
  let E19 : EN := (42, .agg (m1_ref04_Cpu p0))
  let E20 : EN := (43, .one .top (.loc 4 4))
  let E21 : EN := (44, .one .top (.int .i64 p1.Imm_))
  let E22 : EN := (45, .one .top (.int .u32 (IntKind.wrap .u32 p1.Imm_)))
  let E24 : EN := (49, .agg (m1_ref04_Cpu p0))
  let E25 : EN := (50, .one .top (.int .u32 p2))
  let E28 : EN := (55, .one .top (.loc 3 23))
  let E29 : EN := (58, .one .top (.loc 4 4))
  let E30 : EN := (59, .one .top (.int .i64 p1.Imm_))
  let E31 : EN := (60, .one .top (.int .u32 p2))
  let E32 : EN := (61, .one .top (.int .i32 (IntKind.wrap .i32 p2)))
  let E33 : EN := (62, .agg [(.top, .int .i64 p1.Imm_), (.top, .int .i32 (IntKind.wrap .i32 p2))])
  let E34 : EN := (54, .one .top .junk)
  let E35 : EN := (56, .one (.own 0) (.sl 2 (List.map e_api_Event p0.Out_)))
  let E36 : EN := (57, .one .top .junk)
  let E37 : EN := (63, .one .top .junk)
  let E39 : EN := (65, .one .top (.loc 3 23))
  let E40 : EN := (54, .one (.own 1) (.sl 2 (List.map e_api_Event ([] : List T_api_Event))))
  let E42 : EN := (63, .one (.own 1) (.sl 2 (List.map e_api_Event ([(T_api_Event.mk p1.Imm_ (IntKind.wrap .i32 p2))] : List T_api_Event))))
  let E43 : EN := (73, .one .top (.bool (decide (p0.Taken_ ≥ (p0.Input_.length : Int)))))
  let E44 : EN := (68, .one .top (.loc 3 22))
  let E45 : EN := (69, .one .top (.int .i64 p0.Taken_))
  let E46 : EN := (70, .one .top (.loc 3 28))
  let E47 : EN := (71, .one (.own 0) (.sl 1 (List.map (eI .i32) p0.Input_)))
  let E48 : EN := (72, .one .top (.int .i64 (p0.Input_.length : Int)))
  let E49 : EN := (74, .agg (m1_ref04_Cpu p0))
  let E52 : EN := (76, .one .top (.loc 4 1))
  let E53 : EN := (77, .one .top (.int .i64 p1.A_))
  let E54 : EN := (78, .one .top (.loc 3 28))
  let E55 : EN := (80, .one .top (.loc 3 22))
  let E56 : EN := (85, .one .top (.loc 3 0))
  let E57 : EN := (79, .one (.own 0) (.sl 1 (List.map (eI .i32) p0.Input_)))
  let E58 : EN := (81, .one .top (.int .i64 p0.Taken_))
  let E62 : EN := (86, .one .top (.loc 3 (0 + Int.toNat p1.A_)))
  let E63 : EN := (99, .agg (m1_ref04_Cpu p0))
  let E65 : EN := (106, .agg (m1_ref04_Cpu p0))
  let E68 : EN := (108, .one .top (.loc 4 1))
  let E69 : EN := (109, .one .top (.int .i64 p1.A_))
  let E70 : EN := (110, .one .top (.loc 3 17))
  let E71 : EN := (111, .one .top (.int .u32 p0.EPC_))
  let E72 : EN := (112, .one .top (.loc 3 0))
  let E73 : EN := (113, .one .top (.loc 3 (0 + Int.toNat p1.A_)))
  let E75 : EN := (117, .one .top (.loc 4 1))
  let E76 : EN := (118, .one .top (.int .i64 p1.A_))
  let E77 : EN := (119, .one .top (.loc 3 18))
  let E78 : EN := (120, .one .top (.int .u32 p0.Cause_))
  let E79 : EN := (121, .one .top (.loc 3 0))
  let E80 : EN := (122, .one .top (.loc 3 (0 + Int.toNat p1.A_)))
  let S81 : St := ⟨[E1, E2, E3, E4, E8], [B5, B6, B7], H⟩
  let S82 : St := ⟨[E1, E2, E3, E4, E8, E9], [B5, B6, B7], H⟩
  let S83 : St := ⟨[E1, E2, E4], [B5, B7], H⟩
  let S84 : St := ⟨[E1, E2, E4, E8], [B5, B7], H⟩
  let S85 : St := ⟨[E2, E3, E4], [B5, B6, B7], H⟩
  let S86 : St := ⟨[E2, E3, E4, E12, E13, E14, E15], [B5, B6, B7], H⟩
  let S87 : St := ⟨[E2, E4, E8], [B5, B7], H⟩
  let S88 : St := ⟨[E2, E4], [B5, B7], H⟩
  let S89 : St := ⟨[E2, E4, E17], [B5, B7], H⟩
  let S90 : St := ⟨[E2, E3, E4, E19, E20, E21, E22], [B5, B6, B7], H⟩
  let S91 : St := ⟨[E1, E2, E4, E24, E25], [B5, B7], H⟩
  let S93 : St := ⟨[E1, E2, E3, E4, E8, E40, E28, E35, E29, E30, E31, E32, E33], [B5, B6, B7], H⟩
  let S95 : St := ⟨[E1, E2, E3, E4, E8, E34, E28, E35, E29, E30, E31, E32, E33], [B5, B6, B7], H⟩
  let S98 : St := ⟨[E1, E2, E3, E4, E8, E34, E28, E35, E36, E29, E30, E31, E32, E33, E37], [B5, B6, B7], H⟩
  let S100 : St := ⟨[E1, E2, E3, E4, E8, E40, E28, E35, E29, E30, E31, E32, E33, E42], [B5, B6, B7], H⟩
  let S101 : St := ⟨[E1, E2, E3, E4, E8, E34, E28, E35, E29, E30, E31, E32, E33, E42], [B5, B6, B7], H⟩
  let S102 : St := ⟨[E1, E2, E3, E4, E8, E40, E28, E29, E30, E31, E32, E33, E42], [B5, B6, B7], H⟩
  let S103 : St := ⟨[E1, E2, E3, E4, E8, E28, E35, E29, E30, E31, E32, E33, E42], [B5, B6, B7], H⟩
  let S104 : St := ⟨[E2, E3, E4, E8], [B5, B6, B7], H⟩
  let S105 : St := ⟨[E2, E3, E4, E8, E44, E45, E46, E47], [B5, B6, B7], H⟩
  let S106 : St := ⟨[E2, E4, E49], [B5, B7], H⟩
  let S108 : St := ⟨[E2, E3, E4, E8, E52, E53, E54, E57, E55, E58, E56], [B5, B6, B7], H⟩
  let S113 : St := ⟨[E2, E4, E63], [B5, B7], H⟩
  let S114 : St := ⟨[E2, E4, E65], [B5, B7], H⟩
  let S116 : St := ⟨[E2, E3, E4, E8, E68, E69, E70, E71, E72], [B5, B6, B7], H⟩
  let S117 : St := ⟨[E2, E3, E4, E8, E68, E69, E70, E71, E72, E73], [B5, B6, B7], H⟩
  refine w_fun Try.func119 rfl (by kernel_rfl) true (by kernel_rfl) (s0 := (⟨[(0, .agg (m1_ref04_Cpu p0)), (1, .agg (m0_ref02_Instr p1)), E1], [], H⟩ : St)) (by kernel_rfl) ?_
  unfold ref04_others at hF
  refine w_seq ?_
  refine w_reg ⟨[E1, E2, E3, E4], [B5, B6, B7], H⟩ (by kernel_rfl) ?_
  refine w_seq ?_
  refine w_reg S81 (by kernel_rfl) ?_
  refine w_seq ?_
  refine w_seq ?_
  refine w_reg S82 (by kernel_rfl) ?_
  refine w_block ?_
  refine w_seq ?_
  refine w_reg ⟨[E1, E2, E3, E4, E8, E9, (13, .one .top (.bool (p1.Op_ == 24)))], [B5, B6, B7], H⟩ (by kernel_rfl) ?_
  refine w_join (α := (Int × T_ref04_Cpu)) (fun x => (⟨[E2, E4, (7, .one .top (.int .u32 x.1))], [(3, (m1_ref04_Cpu x.2)), B7], H⟩ : St)) (fun x => ref04_others_j1 x.1 x.2 = some ra) ?_ ?_
  rintro ⟨j1, j2⟩ hF
  replace hF : ref04_others_j1 j1 j2 = some ra := hF
  unfold ref04_others_j1 at hF
  refine w_seq ?_
  refine w_reg ⟨[E2, E4], [(3, (arM .u32 16 j2.R_ ++ [(.top, .int .u32 j1), (.top, .int .u32 j2.EPC_), (.top, .int .u32 j2.Cause_), (.top, .int .i64 j2.State_), (.top, .int .i64 j2.Why_), (.top, .int .i64 j2.Steps_), (.top, .int .i64 j2.Taken_), ((.own 0), .sl 2 (List.map e_api_Event j2.Out_)), (.top, .int .u32 j2.Entry_), (.top, .int .u32 j2.Vector_), (.top, .int .u32 j2.Guard_), (.top, .int .u32 j2.Limit_), ((.own 0), .sl 1 (List.map (eI .i32) j2.Input_))])), B7], H⟩ (by kernel_rfl) ?_
  refine w_seq ?_
  refine w_reg ⟨[E4], [(6, (arM .u32 16 j2.R_ ++ [(.top, .int .u32 j1), (.top, .int .u32 j2.EPC_), (.top, .int .u32 j2.Cause_), (.top, .int .i64 j2.State_), (.top, .int .i64 j2.Why_), (.top, .int .i64 j2.Steps_), (.top, .int .i64 j2.Taken_), ((.own 0), .sl 2 (List.map e_api_Event j2.Out_)), (.top, .int .u32 j2.Entry_), (.top, .int .u32 j2.Vector_), (.top, .int .u32 j2.Guard_), (.top, .int .u32 j2.Limit_), ((.own 0), .sl 1 (List.map (eI .i32) j2.Input_))]))], H⟩ (by kernel_rfl) ?_
  refine w_ret ?_
  obtain e0 := some1_inv hF
  subst e0
  exact fin_pure (v := .agg (arM .u32 16 j2.R_ ++ [(.top, .int .u32 j1), (.top, .int .u32 j2.EPC_), (.top, .int .u32 j2.Cause_), (.top, .int .i64 j2.State_), (.top, .int .i64 j2.Why_), (.top, .int .i64 j2.Steps_), (.top, .int .i64 j2.Taken_), ((.own 0), .sl 2 (List.map e_api_Event j2.Out_)), (.top, .int .u32 j2.Entry_), (.top, .int .u32 j2.Vector_), (.top, .int .u32 j2.Guard_), (.top, .int .u32 j2.Limit_), ((.own 0), .sl 1 (List.map (eI .i32) j2.Input_))])) (by kernel_rfl) (by kernel_rfl) rfl (by kernel_rfl)
  rcases if_inv hF with ⟨h3, hF⟩ | ⟨h3, hF⟩
  refine w_cT (m := .top) h3 (s1 := S83) (by kernel_rfl) (by kernel_rfl) ?_
  refine w_reg ⟨[E2, E4, E10], [B5, B7], H⟩ (by kernel_rfl) ?_
  exact ⟨(p2, p0), hF, (by kernel_rfl)⟩
  refine w_cF (m := .top) h3 (s1 := S82) (by kernel_rfl) (by kernel_rfl) ?_
  refine w_seq ?_
  refine w_reg ⟨[E1, E2, E3, E4, E8, E9, (16, .one .top (.bool (p1.Op_ == 25)))], [B5, B6, B7], H⟩ (by kernel_rfl) ?_
  refine w_join (α := (Int × T_ref04_Cpu)) (fun x => (⟨[E2, E4, (7, .one .top (.int .u32 x.1))], [(3, (m1_ref04_Cpu x.2)), B7], H⟩ : St)) (fun x => ref04_others_j2 x.1 x.2 = some ra) ?_ ?_
  rintro ⟨j4, j5⟩ hF
  replace hF : ref04_others_j2 j4 j5 = some ra := hF
  unfold ref04_others_j2 at hF
  exact ⟨(j4, j5), hF, (by kernel_rfl)⟩
  rcases if_inv hF with ⟨h6, hF⟩ | ⟨h6, hF⟩
  refine w_cT (m := .top) h6 (s1 := S84) (by kernel_rfl) (by kernel_rfl) ?_
  refine w_seq ?_
  refine w_reg ⟨[E1, E2, E4], [B11, B7], H⟩ (by kernel_rfl) ?_
  refine w_reg ⟨[E2, E4, E10], [B11, B7], H⟩ (by kernel_rfl) ?_
  exact ⟨(p2, (T_ref04_Cpu.mk (arrL [(p0.R_.g 0), (p0.R_.g 1), (p0.R_.g 2), (p0.R_.g 3), (p0.R_.g 4), (p0.R_.g 5), (p0.R_.g 6), (p0.R_.g 7), (p0.R_.g 8), (p0.R_.g 9), (p0.R_.g 10), (p0.R_.g 11), (p0.R_.g 12), (p0.R_.g 13), (IntKind.wrap .u32 (p0.PC_ + 4)), (p0.R_.g 15)] : Arr 16 Int) p0.PC_ p0.EPC_ p0.Cause_ p0.State_ p0.Why_ p0.Steps_ p0.Taken_ p0.Out_ p0.Entry_ p0.Vector_ p0.Guard_ p0.Limit_ p0.Input_)), hF, (by kernel_rfl)⟩
  refine w_cF (m := .top) h6 (s1 := S82) (by kernel_rfl) (by kernel_rfl) ?_
  refine w_seq ?_
  refine w_reg ⟨[E1, E2, E3, E4, E8, E9, (22, .one .top (.bool (p1.Op_ == 26)))], [B5, B6, B7], H⟩ (by kernel_rfl) ?_
  refine w_join (α := (T_ref04_Cpu)) (fun x => (⟨[E2, E4, E8], [(3, (m1_ref04_Cpu x)), B7], H⟩ : St)) (fun x => ref04_others_j3 p0 x = some ra) ?_ ?_
  rintro j7 hF
  replace hF : ref04_others_j3 p0 j7 = some ra := hF
  unfold ref04_others_j3 at hF
  exact ⟨((IntKind.wrap .u32 (p0.PC_ + 4)), j7), hF, (by kernel_rfl)⟩
  rcases if_inv hF with ⟨h8, hF⟩ | ⟨h8, hF⟩
  refine w_cT (m := .top) h8 (s1 := S81) (by kernel_rfl) (by kernel_rfl) ?_
  refine w_seq ?_
  refine w_reg ⟨[E2, E3, E4, E8, (28, .one .top (.bool (decide (p2 ≥ (IntKind.wrap .u32 p1.Imm_)))))], [B5, B6, B7], H⟩ (by kernel_rfl) ?_
  rcases if_inv hF with ⟨h9, hF⟩ | ⟨h9, hF⟩
  refine w_cT (m := .top) h9 (s1 := S85) (by kernel_rfl) (by kernel_rfl) ?_
  refine w_seq ?_
  obtain ⟨r10, c11, hF⟩ := bind1_inv hF
  let E16 : EN := (33, .agg (m1_ref04_Cpu r10))
  refine w_regO ⟨[E4], [(6, (m1_ref04_Cpu r10))], H⟩ ?_ ?_
  refine o_run 4 S86 (by kernel_rfl) (by kernel_rfl) ?_
  refine o_one ⟨[E2, E3, E4, E12, E13, E14, E15, E16], [B5, B6, B7], H⟩ (st_call (d := (some 33)) (fz := false) (pure := true) (own := false) S86 (ok_ref04_trap H c11) (by kernel_rfl) (by kernel_rfl)) ?_
  refine o_run 1 ⟨[E2, E3, E4, E12, E13, E14, E15, E16], [B5, B6, (6, (m1_ref04_Cpu r10))], H⟩ (by kernel_rfl) (by kernel_rfl) ?_
  exact o_end (by kernel_rfl) (by kernel_rfl)
  refine w_ret ?_
  obtain e0 := some1_inv hF
  subst e0
  exact fin_pure (v := .agg (m1_ref04_Cpu r10)) (by kernel_rfl) (by kernel_rfl) rfl (by kernel_rfl)
  refine w_cF (m := .top) h9 (s1 := S87) (by kernel_rfl) (by kernel_rfl) ?_
  refine w_skip ?_
  exact ⟨p0, hF, (by kernel_rfl)⟩
  refine w_cF (m := .top) h8 (s1 := S82) (by kernel_rfl) (by kernel_rfl) ?_
  refine w_seq ?_
  refine w_reg ⟨[E1, E2, E3, E4, E8, E9, (34, .one .top (.bool (p1.Op_ == 27)))], [B5, B6, B7], H⟩ (by kernel_rfl) ?_
  refine w_join (α := (T_ref04_Cpu)) (fun x => (⟨[E2, E4, E8], [(3, (m1_ref04_Cpu x)), B7], H⟩ : St)) (fun x => ref04_others_j4 p0 x = some ra) ?_ ?_
  rintro j12 hF
  replace hF : ref04_others_j4 p0 j12 = some ra := hF
  unfold ref04_others_j4 at hF
  exact ⟨j12, hF, (by kernel_rfl)⟩
  rcases if_inv hF with ⟨h13, hF⟩ | ⟨h13, hF⟩
  refine w_cT (m := .top) h13 (s1 := S84) (by kernel_rfl) (by kernel_rfl) ?_
  refine w_seq ?_
  refine w_reg ⟨[E2, E4, E8, (37, .one .top (.bool (p2 == 0)))], [B5, B7], H⟩ (by kernel_rfl) ?_
  rcases if_inv hF with ⟨h14, hF⟩ | ⟨h14, hF⟩
  refine w_cT (m := .top) h14 (s1 := S88) (by kernel_rfl) (by kernel_rfl) ?_
  refine w_seq ?_
  obtain ⟨r15, c16, hF⟩ := bind1_inv hF
  let E18 : EN := (39, .agg (m1_ref04_Cpu r15))
  refine w_regO ⟨[E4], [(6, (m1_ref04_Cpu r15))], H⟩ ?_ ?_
  refine o_run 1 S89 (by kernel_rfl) (by kernel_rfl) ?_
  refine o_one ⟨[E2, E4, E17, E18], [B5, B7], H⟩ (st_call (d := (some 39)) (fz := false) (pure := true) (own := false) S89 (ok_ref04_trap H c16) (by kernel_rfl) (by kernel_rfl)) ?_
  refine o_run 1 ⟨[E2, E4, E17, E18], [B5, (6, (m1_ref04_Cpu r15))], H⟩ (by kernel_rfl) (by kernel_rfl) ?_
  exact o_end (by kernel_rfl) (by kernel_rfl)
  refine w_ret ?_
  obtain e0 := some1_inv hF
  subst e0
  exact fin_pure (v := .agg (m1_ref04_Cpu r15)) (by kernel_rfl) (by kernel_rfl) rfl (by kernel_rfl)
  refine w_cF (m := .top) h14 (s1 := S87) (by kernel_rfl) (by kernel_rfl) ?_
  refine w_skip ?_
  exact ⟨p0, hF, (by kernel_rfl)⟩
  refine w_cF (m := .top) h13 (s1 := S82) (by kernel_rfl) (by kernel_rfl) ?_
  refine w_seq ?_
  refine w_reg ⟨[E1, E2, E3, E4, E8, E9, (40, .one .top (.bool (p1.Op_ == 28)))], [B5, B6, B7], H⟩ (by kernel_rfl) ?_
  rcases if_inv hF with ⟨h17, hF⟩ | ⟨h17, hF⟩
  refine w_cT (m := .top) h17 (s1 := S85) (by kernel_rfl) (by kernel_rfl) ?_
  refine w_seq ?_
  obtain ⟨r18, c19, hF⟩ := bind1_inv hF
  let E23 : EN := (46, .agg (m1_ref04_Cpu r18))
  refine w_regO ⟨[E4], [(6, (m1_ref04_Cpu r18))], H⟩ ?_ ?_
  refine o_run 4 S90 (by kernel_rfl) (by kernel_rfl) ?_
  refine o_one ⟨[E2, E3, E4, E19, E20, E21, E22, E23], [B5, B6, B7], H⟩ (st_call (d := (some 46)) (fz := false) (pure := true) (own := false) S90 (ok_ref04_trap H c19) (by kernel_rfl) (by kernel_rfl)) ?_
  refine o_run 1 ⟨[E2, E3, E4, E19, E20, E21, E22, E23], [B5, B6, (6, (m1_ref04_Cpu r18))], H⟩ (by kernel_rfl) (by kernel_rfl) ?_
  exact o_end (by kernel_rfl) (by kernel_rfl)
  refine w_ret ?_
  obtain e0 := some1_inv hF
  subst e0
  exact fin_pure (v := .agg (m1_ref04_Cpu r18)) (by kernel_rfl) (by kernel_rfl) rfl (by kernel_rfl)
  refine w_cF (m := .top) h17 (s1 := S82) (by kernel_rfl) (by kernel_rfl) ?_
  refine w_seq ?_
  refine w_reg ⟨[E1, E2, E3, E4, E8, E9, (47, .one .top (.bool (p1.Op_ == 29)))], [B5, B6, B7], H⟩ (by kernel_rfl) ?_
  rcases if_inv hF with ⟨h20, hF⟩ | ⟨h20, hF⟩
  refine w_cT (m := .top) h20 (s1 := S83) (by kernel_rfl) (by kernel_rfl) ?_
  refine w_seq ?_
  obtain ⟨r21, c22, hF⟩ := bind1_inv hF
  let E26 : EN := (51, .agg (m1_ref04_Cpu r21))
  refine w_regO ⟨[E4], [(6, (m1_ref04_Cpu r21))], H⟩ ?_ ?_
  refine o_run 2 S91 (by kernel_rfl) (by kernel_rfl) ?_
  refine o_one ⟨[E1, E2, E4, E24, E25, E26], [B5, B7], H⟩ (st_call (d := (some 51)) (fz := false) (pure := true) (own := false) S91 (ok_ref04_trap H c22) (by kernel_rfl) (by kernel_rfl)) ?_
  refine o_run 1 ⟨[E1, E2, E4, E24, E25, E26], [B5, (6, (m1_ref04_Cpu r21))], H⟩ (by kernel_rfl) (by kernel_rfl) ?_
  exact o_end (by kernel_rfl) (by kernel_rfl)
  refine w_ret ?_
  obtain e0 := some1_inv hF
  subst e0
  exact fin_pure (v := .agg (m1_ref04_Cpu r21)) (by kernel_rfl) (by kernel_rfl) rfl (by kernel_rfl)
  refine w_cF (m := .top) h20 (s1 := S82) (by kernel_rfl) (by kernel_rfl) ?_
  refine w_seq ?_
  refine w_reg ⟨[E1, E2, E3, E4, E8, E9, (52, .one .top (.bool (p1.Op_ == 30)))], [B5, B6, B7], H⟩ (by kernel_rfl) ?_
  refine w_join (α := (T_ref04_Cpu)) (fun x => (⟨[E2, E4, E8], [(3, (m1_ref04_Cpu x)), B7], H⟩ : St)) (fun x => ref04_others_j5 p0 x = some ra) ?_ ?_
  rintro j23 hF
  replace hF : ref04_others_j5 p0 j23 = some ra := hF
  unfold ref04_others_j5 at hF
  exact ⟨j23, hF, (by kernel_rfl)⟩
  rcases if_inv hF with ⟨h24, hF⟩ | ⟨h24, hF⟩
  refine w_cT (m := .top) h24 (s1 := S81) (by kernel_rfl) (by kernel_rfl) ?_
  obtain ⟨v25, h26, hF⟩ := bind1_inv hF
  let E41 : EN := (57, .one (.own 1) (.sl 2 (List.map e_api_Event v25)))
  let S94 : St := ⟨[E1, E2, E3, E4, E8, E34, E28, E35, E41, E29, E30, E31, E32, E33], [B5, B6, B7], H⟩
  let S96 : St := ⟨[E1, E2, E3, E4, E8, E34, E28, E35, E41, E29, E30, E31, E32, E33, E42], [B5, B6, B7], H⟩
  obtain ⟨v27, h28, hF⟩ := bind1_inv hF
  let B27 : EB := (3, (arM .u32 16 p0.R_ ++ [(.top, .int .u32 p0.PC_), (.top, .int .u32 p0.EPC_), (.top, .int .u32 p0.Cause_), (.top, .int .i64 p0.State_), (.top, .int .i64 p0.Why_), (.top, .int .i64 p0.Steps_), (.top, .int .i64 p0.Taken_), ((.own 0), .sl 2 (List.map e_api_Event v27)), (.top, .int .u32 p0.Entry_), (.top, .int .u32 p0.Vector_), (.top, .int .u32 p0.Guard_), (.top, .int .u32 p0.Limit_), ((.own 0), .sl 1 (List.map (eI .i32) p0.Input_))]))
  let E38 : EN := (64, .one (.own 0) (.sl 2 (List.map e_api_Event v27)))
  let S92 : St := ⟨[E1, E2, E3, E4, E8, E34, E28, E35, E36, E29, E30, E31, E32, E33, E37, E38, E39], [B27, B6, B7], H⟩
  let S97 : St := ⟨[E1, E2, E3, E4, E8, E34, E28, E35, E36, E29, E30, E31, E32, E33, E37, E38], [B5, B6, B7], H⟩
  let S99 : St := ⟨[E1, E2, E3, E4, E8, E34, E28, E35, E36, E29, E30, E31, E32, E33, E37, E38, E39], [B5, B6, B7], H⟩
  let K121 : Sch := .last 2 (.last 3 (.last 10 (.take 11 (.last 12 .done))))
  let K122 : Sch := .last 0 (.last 3 (.last 10 (.take 11 (.last 12 .done))))
  let K120 : Sch := .alt 3 (.last 9 (.last 10 (.take 11 (.last 12 .done)))) (.last 9 (.last 3 (.last 10 (.take 11 (.last 12 .done)))))
  refine w_regD (.take 1 (.take 4 (.take 5 (.take 6 (.take 7 (.take 8 (.alt 0 (.alt 2 K120 (.last 9 K121)) (.alt 2 (.alt 0 K120 (.last 9 K122)) (.last 9 (.alt 0 K121 (.last 2 K122))))))))))) (by kernel_rfl) (⟨[E2, E4, E8], [B27, B7], H⟩ : St) ?_ ?_
  refine d_take ⟨[E1, E2, E3, E4, E8, E28], [B5, B6, B7], H⟩ (by kernel_rfl) ?_
  refine d_take ⟨[E1, E2, E3, E4, E8, E28, E29], [B5, B6, B7], H⟩ (by kernel_rfl) ?_
  refine d_take ⟨[E1, E2, E3, E4, E8, E28, E29, E30], [B5, B6, B7], H⟩ (by kernel_rfl) ?_
  refine d_take ⟨[E1, E2, E3, E4, E8, E28, E29, E30, E31], [B5, B6, B7], H⟩ (by kernel_rfl) ?_
  refine d_take ⟨[E1, E2, E3, E4, E8, E28, E29, E30, E31, E32], [B5, B6, B7], H⟩ (by kernel_rfl) ?_
  refine d_take ⟨[E1, E2, E3, E4, E8, E28, E29, E30, E31, E32, E33], [B5, B6, B7], H⟩ (by kernel_rfl) ?_
  refine q_in S92 ?_ ?_
  refine q_alt ⟨[E1, E2, E3, E4, E8, E40, E28, E29, E30, E31, E32, E33], [B5, B6, B7], H⟩ (by kernel_rfl) ?_ ?_
  refine q_alt S93 (by kernel_rfl) ?_ ?_
  refine q_alt S94 (st_app (X := X) S95 16 h26 47 47 67 2 0 [(.top, .int .i64 0), (.top, .int .i32 0)] (.own 0) e_api_Event 0 (some 57) (by kernel_rfl) (by kernel_rfl) (by kernel_rfl) (by kernel_rfl) (by kernel_rfl) (by kernel_rfl) (by kernel_rfl) (by kernel_rfl) (by kernel_rfl) (fun _ => rfl) (by kernel_rfl)) ?_ ?_
  refine q_last S96 (by kernel_rfl) ?_
  refine q_last S97 (st_appZ (X := X) S98 16 h28 47 47 67 2 0 [(.top, .int .i64 0), (.top, .int .i32 0)] (.own 1) e_api_Event 0 (some 64) (by kernel_rfl) (by kernel_rfl) (by kernel_rfl) (by kernel_rfl) (by kernel_rfl) (by kernel_rfl) (by kernel_rfl) (by kernel_rfl) (by kernel_rfl) (fun _ => rfl) (by kernel_rfl)) ?_
  refine q_take S99 (by kernel_rfl) ?_
  refine q_last S92 (by kernel_rfl) ?_
  exact q_end (by kernel_rfl)
  refine q_last S100 (by kernel_rfl) ?_
  refine q_last S96 (st_app (X := X) S101 16 h26 47 47 67 2 0 [(.top, .int .i64 0), (.top, .int .i32 0)] (.own 0) e_api_Event 0 (some 57) (by kernel_rfl) (by kernel_rfl) (by kernel_rfl) (by kernel_rfl) (by kernel_rfl) (by kernel_rfl) (by kernel_rfl) (by kernel_rfl) (by kernel_rfl) (fun _ => rfl) (by kernel_rfl)) ?_
  refine q_last S97 (st_appZ (X := X) S98 16 h28 47 47 67 2 0 [(.top, .int .i64 0), (.top, .int .i32 0)] (.own 1) e_api_Event 0 (some 64) (by kernel_rfl) (by kernel_rfl) (by kernel_rfl) (by kernel_rfl) (by kernel_rfl) (by kernel_rfl) (by kernel_rfl) (by kernel_rfl) (by kernel_rfl) (fun _ => rfl) (by kernel_rfl)) ?_
  refine q_take S99 (by kernel_rfl) ?_
  refine q_last S92 (by kernel_rfl) ?_
  exact q_end (by kernel_rfl)
  refine q_last S102 (by kernel_rfl) ?_
  refine q_last S100 (by kernel_rfl) ?_
  refine q_last S96 (st_app (X := X) S101 16 h26 47 47 67 2 0 [(.top, .int .i64 0), (.top, .int .i32 0)] (.own 0) e_api_Event 0 (some 57) (by kernel_rfl) (by kernel_rfl) (by kernel_rfl) (by kernel_rfl) (by kernel_rfl) (by kernel_rfl) (by kernel_rfl) (by kernel_rfl) (by kernel_rfl) (fun _ => rfl) (by kernel_rfl)) ?_
  refine q_last S97 (st_appZ (X := X) S98 16 h28 47 47 67 2 0 [(.top, .int .i64 0), (.top, .int .i32 0)] (.own 1) e_api_Event 0 (some 64) (by kernel_rfl) (by kernel_rfl) (by kernel_rfl) (by kernel_rfl) (by kernel_rfl) (by kernel_rfl) (by kernel_rfl) (by kernel_rfl) (by kernel_rfl) (fun _ => rfl) (by kernel_rfl)) ?_
  refine q_take S99 (by kernel_rfl) ?_
  refine q_last S92 (by kernel_rfl) ?_
  exact q_end (by kernel_rfl)
  refine q_alt ⟨[E1, E2, E3, E4, E8, E28, E35, E29, E30, E31, E32, E33], [B5, B6, B7], H⟩ (by kernel_rfl) ?_ ?_
  refine q_alt S93 (by kernel_rfl) ?_ ?_
  refine q_alt S94 (st_app (X := X) S95 16 h26 47 47 67 2 0 [(.top, .int .i64 0), (.top, .int .i32 0)] (.own 0) e_api_Event 0 (some 57) (by kernel_rfl) (by kernel_rfl) (by kernel_rfl) (by kernel_rfl) (by kernel_rfl) (by kernel_rfl) (by kernel_rfl) (by kernel_rfl) (by kernel_rfl) (fun _ => rfl) (by kernel_rfl)) ?_ ?_
  refine q_last S96 (by kernel_rfl) ?_
  refine q_last S97 (st_appZ (X := X) S98 16 h28 47 47 67 2 0 [(.top, .int .i64 0), (.top, .int .i32 0)] (.own 1) e_api_Event 0 (some 64) (by kernel_rfl) (by kernel_rfl) (by kernel_rfl) (by kernel_rfl) (by kernel_rfl) (by kernel_rfl) (by kernel_rfl) (by kernel_rfl) (by kernel_rfl) (fun _ => rfl) (by kernel_rfl)) ?_
  refine q_take S99 (by kernel_rfl) ?_
  refine q_last S92 (by kernel_rfl) ?_
  exact q_end (by kernel_rfl)
  refine q_last S100 (by kernel_rfl) ?_
  refine q_last S96 (st_app (X := X) S101 16 h26 47 47 67 2 0 [(.top, .int .i64 0), (.top, .int .i32 0)] (.own 0) e_api_Event 0 (some 57) (by kernel_rfl) (by kernel_rfl) (by kernel_rfl) (by kernel_rfl) (by kernel_rfl) (by kernel_rfl) (by kernel_rfl) (by kernel_rfl) (by kernel_rfl) (fun _ => rfl) (by kernel_rfl)) ?_
  refine q_last S97 (st_appZ (X := X) S98 16 h28 47 47 67 2 0 [(.top, .int .i64 0), (.top, .int .i32 0)] (.own 1) e_api_Event 0 (some 64) (by kernel_rfl) (by kernel_rfl) (by kernel_rfl) (by kernel_rfl) (by kernel_rfl) (by kernel_rfl) (by kernel_rfl) (by kernel_rfl) (by kernel_rfl) (fun _ => rfl) (by kernel_rfl)) ?_
  refine q_take S99 (by kernel_rfl) ?_
  refine q_last S92 (by kernel_rfl) ?_
  exact q_end (by kernel_rfl)
  refine q_last S103 (by kernel_rfl) ?_
  refine q_last S100 (by kernel_rfl) ?_
  refine q_last S96 (st_app (X := X) S101 16 h26 47 47 67 2 0 [(.top, .int .i64 0), (.top, .int .i32 0)] (.own 0) e_api_Event 0 (some 57) (by kernel_rfl) (by kernel_rfl) (by kernel_rfl) (by kernel_rfl) (by kernel_rfl) (by kernel_rfl) (by kernel_rfl) (by kernel_rfl) (by kernel_rfl) (fun _ => rfl) (by kernel_rfl)) ?_
  refine q_last S97 (st_appZ (X := X) S98 16 h28 47 47 67 2 0 [(.top, .int .i64 0), (.top, .int .i32 0)] (.own 1) e_api_Event 0 (some 64) (by kernel_rfl) (by kernel_rfl) (by kernel_rfl) (by kernel_rfl) (by kernel_rfl) (by kernel_rfl) (by kernel_rfl) (by kernel_rfl) (by kernel_rfl) (fun _ => rfl) (by kernel_rfl)) ?_
  refine q_take S99 (by kernel_rfl) ?_
  refine q_last S92 (by kernel_rfl) ?_
  exact q_end (by kernel_rfl)
  refine q_last ⟨[E1, E2, E3, E4, E8, E28, E29, E30, E31, E32, E33, E42], [B5, B6, B7], H⟩ (by kernel_rfl) ?_
  refine q_alt S102 (by kernel_rfl) ?_ ?_
  refine q_last S100 (by kernel_rfl) ?_
  refine q_last S96 (st_app (X := X) S101 16 h26 47 47 67 2 0 [(.top, .int .i64 0), (.top, .int .i32 0)] (.own 0) e_api_Event 0 (some 57) (by kernel_rfl) (by kernel_rfl) (by kernel_rfl) (by kernel_rfl) (by kernel_rfl) (by kernel_rfl) (by kernel_rfl) (by kernel_rfl) (by kernel_rfl) (fun _ => rfl) (by kernel_rfl)) ?_
  refine q_last S97 (st_appZ (X := X) S98 16 h28 47 47 67 2 0 [(.top, .int .i64 0), (.top, .int .i32 0)] (.own 1) e_api_Event 0 (some 64) (by kernel_rfl) (by kernel_rfl) (by kernel_rfl) (by kernel_rfl) (by kernel_rfl) (by kernel_rfl) (by kernel_rfl) (by kernel_rfl) (by kernel_rfl) (fun _ => rfl) (by kernel_rfl)) ?_
  refine q_take S99 (by kernel_rfl) ?_
  refine q_last S92 (by kernel_rfl) ?_
  exact q_end (by kernel_rfl)
  refine q_last S103 (by kernel_rfl) ?_
  refine q_last S100 (by kernel_rfl) ?_
  refine q_last S96 (st_app (X := X) S101 16 h26 47 47 67 2 0 [(.top, .int .i64 0), (.top, .int .i32 0)] (.own 0) e_api_Event 0 (some 57) (by kernel_rfl) (by kernel_rfl) (by kernel_rfl) (by kernel_rfl) (by kernel_rfl) (by kernel_rfl) (by kernel_rfl) (by kernel_rfl) (by kernel_rfl) (fun _ => rfl) (by kernel_rfl)) ?_
  refine q_last S97 (st_appZ (X := X) S98 16 h28 47 47 67 2 0 [(.top, .int .i64 0), (.top, .int .i32 0)] (.own 1) e_api_Event 0 (some 64) (by kernel_rfl) (by kernel_rfl) (by kernel_rfl) (by kernel_rfl) (by kernel_rfl) (by kernel_rfl) (by kernel_rfl) (by kernel_rfl) (by kernel_rfl) (fun _ => rfl) (by kernel_rfl)) ?_
  refine q_take S99 (by kernel_rfl) ?_
  refine q_last S92 (by kernel_rfl) ?_
  exact q_end (by kernel_rfl)
  kernel_rfl
  exact ⟨(T_ref04_Cpu.mk p0.R_ p0.PC_ p0.EPC_ p0.Cause_ p0.State_ p0.Why_ p0.Steps_ p0.Taken_ v27 p0.Entry_ p0.Vector_ p0.Guard_ p0.Limit_ p0.Input_), hF, (by kernel_rfl)⟩
  refine w_cF (m := .top) h24 (s1 := S82) (by kernel_rfl) (by kernel_rfl) ?_
  refine w_seq ?_
  refine w_reg ⟨[E1, E2, E3, E4, E8, E9, (66, .one .top (.bool (p1.Op_ == 31)))], [B5, B6, B7], H⟩ (by kernel_rfl) ?_
  refine w_join (α := (T_ref04_Cpu)) (fun x => (⟨[E2, E4, E8], [(3, (m1_ref04_Cpu x)), B7], H⟩ : St)) (fun x => ref04_others_j6 p0 x = some ra) ?_ ?_
  rintro j29 hF
  replace hF : ref04_others_j6 p0 j29 = some ra := hF
  unfold ref04_others_j6 at hF
  exact ⟨j29, hF, (by kernel_rfl)⟩
  rcases if_inv hF with ⟨h30, hF⟩ | ⟨h30, hF⟩
  refine w_cT (m := .top) h30 (s1 := S104) (by kernel_rfl) (by kernel_rfl) ?_
  refine w_seq ?_
  refine w_seq ?_
  refine w_regO ⟨[E2, E3, E4, E8, E43], [B5, B6, B7], H⟩ ?_ ?_
  refine o_run 4 S105 (by kernel_rfl) (by kernel_rfl) ?_
  refine o_one ⟨[E2, E3, E4, E8, E44, E45, E46, E47, E48], [B5, B6, B7], H⟩ (st_len S105 p0.Input_ (eI .i32) (some 72) (by kernel_rfl) (by kernel_rfl)) ?_
  refine o_run 1 ⟨[E2, E3, E4, E8, E44, E45, E46, E47, E48, E43], [B5, B6, B7], H⟩ (by kernel_rfl) (by kernel_rfl) ?_
  exact o_end (by kernel_rfl) (by kernel_rfl)
  rcases if_inv hF with ⟨h31, hF⟩ | ⟨h31, hF⟩
  refine w_cT (m := .top) h31 (s1 := S88) (by kernel_rfl) (by kernel_rfl) ?_
  refine w_seq ?_
  obtain ⟨r32, c33, hF⟩ := bind1_inv hF
  let E50 : EN := (75, .agg (m1_ref04_Cpu r32))
  refine w_regO ⟨[E4], [(6, (m1_ref04_Cpu r32))], H⟩ ?_ ?_
  refine o_run 1 S106 (by kernel_rfl) (by kernel_rfl) ?_
  refine o_one ⟨[E2, E4, E49, E50], [B5, B7], H⟩ (st_call (d := (some 75)) (fz := false) (pure := true) (own := false) S106 (ok_ref04_trap H c33) (by kernel_rfl) (by kernel_rfl)) ?_
  refine o_run 1 ⟨[E2, E4, E49, E50], [B5, (6, (m1_ref04_Cpu r32))], H⟩ (by kernel_rfl) (by kernel_rfl) ?_
  exact o_end (by kernel_rfl) (by kernel_rfl)
  refine w_ret ?_
  obtain e0 := some1_inv hF
  subst e0
  exact fin_pure (v := .agg (m1_ref04_Cpu r32)) (by kernel_rfl) (by kernel_rfl) rfl (by kernel_rfl)
  refine w_cF (m := .top) h31 (s1 := S104) (by kernel_rfl) (by kernel_rfl) ?_
  refine w_skip ?_
  refine w_seq ?_
  obtain ⟨x34, h35, hF⟩ := bind1_inv hF
  let E59 : EN := (82, .one .top (.rd (.own 0) (.own 0) [.int .i32 x34] 0))
  let E60 : EN := (83, .one .top (.int .i32 x34))
  let E61 : EN := (84, .one .top (.int .u32 (IntKind.wrap .u32 x34)))
  let S109 : St := ⟨[E2, E3, E4, E8, E52, E53, E54, E57, E55, E58, E59, E56], [B5, B6, B7], H⟩
  let S110 : St := ⟨[E2, E3, E4, E8, E52, E53, E54, E57, E55, E58, E59, E60, E56], [B5, B6, B7], H⟩
  let S111 : St := ⟨[E2, E3, E4, E8, E52, E53, E54, E57, E55, E58, E59, E60, E61, E56], [B5, B6, B7], H⟩
  let S112 : St := ⟨[E2, E3, E4, E8, E52, E53, E54, E57, E55, E58, E59, E60, E61, E56, E62], [B5, B6, B7], H⟩
  obtain ⟨v36, h37, hF⟩ := bind1_inv hF
  obtain ⟨v38, h39, hF⟩ := bind1_inv hF
  let B51 : EB := (3, (arM .u32 16 v38 ++ [(.top, .int .u32 p0.PC_), (.top, .int .u32 p0.EPC_), (.top, .int .u32 p0.Cause_), (.top, .int .i64 p0.State_), (.top, .int .i64 p0.Why_), (.top, .int .i64 p0.Steps_), (.top, .int .i64 p0.Taken_), ((.own 0), .sl 2 (List.map e_api_Event p0.Out_)), (.top, .int .u32 p0.Entry_), (.top, .int .u32 p0.Vector_), (.top, .int .u32 p0.Guard_), (.top, .int .u32 p0.Limit_), ((.own 0), .sl 1 (List.map (eI .i32) p0.Input_))]))
  let S107 : St := ⟨[E2, E3, E4, E8, E52, E53, E54, E57, E55, E58, E59, E60, E61, E56, E62], [B51, B6, B7], H⟩
  let K123 : Sch := .take 6 (.take 7 (.take 8 (.take 10 (.last 11 .done))))
  refine w_regD (.take 0 (.take 1 (.take 2 (.take 4 (.take 9 (.alt 3 (.last 5 K123) (.last 5 (.last 3 K123)))))))) (by kernel_rfl) (⟨[E2, E4, E8], [B51, B7], H⟩ : St) ?_ ?_
  refine d_take ⟨[E2, E3, E4, E8, E52], [B5, B6, B7], H⟩ (by kernel_rfl) ?_
  refine d_take ⟨[E2, E3, E4, E8, E52, E53], [B5, B6, B7], H⟩ (by kernel_rfl) ?_
  refine d_take ⟨[E2, E3, E4, E8, E52, E53, E54], [B5, B6, B7], H⟩ (by kernel_rfl) ?_
  refine d_take ⟨[E2, E3, E4, E8, E52, E53, E54, E55], [B5, B6, B7], H⟩ (by kernel_rfl) ?_
  refine d_take ⟨[E2, E3, E4, E8, E52, E53, E54, E55, E56], [B5, B6, B7], H⟩ (by kernel_rfl) ?_
  refine q_in S107 ?_ ?_
  refine q_alt ⟨[E2, E3, E4, E8, E52, E53, E54, E57, E55, E56], [B5, B6, B7], H⟩ (by kernel_rfl) ?_ ?_
  refine q_last S108 (by kernel_rfl) ?_
  refine q_take S109 (st_ix (X := X) S108 48 21 1 h35 (eI .i32) (.own 0) (some 82) (by kernel_rfl) (by kernel_rfl) (by kernel_rfl) (by kernel_rfl)) ?_
  refine q_take S110 (by kernel_rfl) ?_
  refine q_take S111 (by kernel_rfl) ?_
  refine q_take S112 (st_ixL (X := X) S111 46 35 16 h37 3 0 (some 86) (by kernel_rfl) (by kernel_rfl) (by kernel_rfl) (by kernel_rfl)) ?_
  refine q_last S107 (st_stL (X := X) S112 35 16 h39 3 0 (arM .u32 16 p0.R_ ++ [(.top, .int .u32 p0.PC_), (.top, .int .u32 p0.EPC_), (.top, .int .u32 p0.Cause_), (.top, .int .i64 p0.State_), (.top, .int .i64 p0.Why_), (.top, .int .i64 p0.Steps_), (.top, .int .i64 p0.Taken_), ((.own 0), .sl 2 (List.map e_api_Event p0.Out_)), (.top, .int .u32 p0.Entry_), (.top, .int .u32 p0.Vector_), (.top, .int .u32 p0.Guard_), (.top, .int .u32 p0.Limit_), ((.own 0), .sl 1 (List.map (eI .i32) p0.Input_))]) (fun q => .int .u32 q) ⟨true, [4, 6]⟩ (by kernel_rfl) (by kernel_rfl) (by kernel_rfl) (by kernel_rfl) (by kernel_rfl) (fun _ => rfl) (by kernel_rfl)) ?_
  exact q_end (by kernel_rfl)
  refine q_last ⟨[E2, E3, E4, E8, E52, E53, E54, E55, E58, E56], [B5, B6, B7], H⟩ (by kernel_rfl) ?_
  refine q_last S108 (by kernel_rfl) ?_
  refine q_take S109 (st_ix (X := X) S108 48 21 1 h35 (eI .i32) (.own 0) (some 82) (by kernel_rfl) (by kernel_rfl) (by kernel_rfl) (by kernel_rfl)) ?_
  refine q_take S110 (by kernel_rfl) ?_
  refine q_take S111 (by kernel_rfl) ?_
  refine q_take S112 (st_ixL (X := X) S111 46 35 16 h37 3 0 (some 86) (by kernel_rfl) (by kernel_rfl) (by kernel_rfl) (by kernel_rfl)) ?_
  refine q_last S107 (st_stL (X := X) S112 35 16 h39 3 0 (arM .u32 16 p0.R_ ++ [(.top, .int .u32 p0.PC_), (.top, .int .u32 p0.EPC_), (.top, .int .u32 p0.Cause_), (.top, .int .i64 p0.State_), (.top, .int .i64 p0.Why_), (.top, .int .i64 p0.Steps_), (.top, .int .i64 p0.Taken_), ((.own 0), .sl 2 (List.map e_api_Event p0.Out_)), (.top, .int .u32 p0.Entry_), (.top, .int .u32 p0.Vector_), (.top, .int .u32 p0.Guard_), (.top, .int .u32 p0.Limit_), ((.own 0), .sl 1 (List.map (eI .i32) p0.Input_))]) (fun q => .int .u32 q) ⟨true, [4, 6]⟩ (by kernel_rfl) (by kernel_rfl) (by kernel_rfl) (by kernel_rfl) (by kernel_rfl) (fun _ => rfl) (by kernel_rfl)) ?_
  exact q_end (by kernel_rfl)
  kernel_rfl
  refine w_reg ⟨[E2, E4, E8], [(3, (arM .u32 16 v38 ++ [(.top, .int .u32 p0.PC_), (.top, .int .u32 p0.EPC_), (.top, .int .u32 p0.Cause_), (.top, .int .i64 p0.State_), (.top, .int .i64 p0.Why_), (.top, .int .i64 p0.Steps_), (.top, .int .i64 (IntKind.wrap .i64 (p0.Taken_ + 1))), ((.own 0), .sl 2 (List.map e_api_Event p0.Out_)), (.top, .int .u32 p0.Entry_), (.top, .int .u32 p0.Vector_), (.top, .int .u32 p0.Guard_), (.top, .int .u32 p0.Limit_), ((.own 0), .sl 1 (List.map (eI .i32) p0.Input_))])), B7], H⟩ (by kernel_rfl) ?_
  exact ⟨(T_ref04_Cpu.mk v38 p0.PC_ p0.EPC_ p0.Cause_ p0.State_ p0.Why_ p0.Steps_ (IntKind.wrap .i64 (p0.Taken_ + 1)) p0.Out_ p0.Entry_ p0.Vector_ p0.Guard_ p0.Limit_ p0.Input_), hF, (by kernel_rfl)⟩
  refine w_cF (m := .top) h30 (s1 := S82) (by kernel_rfl) (by kernel_rfl) ?_
  refine w_seq ?_
  refine w_reg ⟨[E1, E2, E3, E4, E8, E9, (91, .one .top (.bool (p1.Op_ == 32)))], [B5, B6, B7], H⟩ (by kernel_rfl) ?_
  refine w_join (α := (T_ref04_Cpu)) (fun x => (⟨[E2, E4, E8], [(3, (m1_ref04_Cpu x)), B7], H⟩ : St)) (fun x => ref04_others_j7 p0 x = some ra) ?_ ?_
  rintro j40 hF
  replace hF : ref04_others_j7 p0 j40 = some ra := hF
  unfold ref04_others_j7 at hF
  exact ⟨j40, hF, (by kernel_rfl)⟩
  rcases if_inv hF with ⟨h41, hF⟩ | ⟨h41, hF⟩
  refine w_cT (m := .top) h41 (s1 := S84) (by kernel_rfl) (by kernel_rfl) ?_
  refine w_seq ?_
  refine w_reg ⟨[E2, E4, E8, (98, .one .top (.bool (decide ((IntKind.wrap .i32 p2) < (IntKind.wrap .i32 p0.Limit_)))))], [B5, B7], H⟩ (by kernel_rfl) ?_
  rcases if_inv hF with ⟨h42, hF⟩ | ⟨h42, hF⟩
  refine w_cT (m := .top) h42 (s1 := S88) (by kernel_rfl) (by kernel_rfl) ?_
  refine w_seq ?_
  obtain ⟨r43, c44, hF⟩ := bind1_inv hF
  let E64 : EN := (100, .agg (m1_ref04_Cpu r43))
  refine w_regO ⟨[E4], [(6, (m1_ref04_Cpu r43))], H⟩ ?_ ?_
  refine o_run 1 S113 (by kernel_rfl) (by kernel_rfl) ?_
  refine o_one ⟨[E2, E4, E63, E64], [B5, B7], H⟩ (st_call (d := (some 100)) (fz := false) (pure := true) (own := false) S113 (ok_ref04_trap H c44) (by kernel_rfl) (by kernel_rfl)) ?_
  refine o_run 1 ⟨[E2, E4, E63, E64], [B5, (6, (m1_ref04_Cpu r43))], H⟩ (by kernel_rfl) (by kernel_rfl) ?_
  exact o_end (by kernel_rfl) (by kernel_rfl)
  refine w_ret ?_
  obtain e0 := some1_inv hF
  subst e0
  exact fin_pure (v := .agg (m1_ref04_Cpu r43)) (by kernel_rfl) (by kernel_rfl) rfl (by kernel_rfl)
  refine w_cF (m := .top) h42 (s1 := S87) (by kernel_rfl) (by kernel_rfl) ?_
  refine w_skip ?_
  exact ⟨p0, hF, (by kernel_rfl)⟩
  refine w_cF (m := .top) h41 (s1 := (⟨[E2, E3, E4, E8, E9], [B5, B6, B7], H⟩ : St)) (by kernel_rfl) (by kernel_rfl) ?_
  refine w_seq ?_
  refine w_reg ⟨[E2, E3, E4, E8, (101, .one .top (.bool (p1.Op_ == 33)))], [B5, B6, B7], H⟩ (by kernel_rfl) ?_
  refine w_join (α := (T_ref04_Cpu)) (fun x => (⟨[E2, E4, E8], [(3, (m1_ref04_Cpu x)), B7], H⟩ : St)) (fun x => ref04_others_j8 p0 x = some ra) ?_ ?_
  rintro j45 hF
  replace hF : ref04_others_j8 p0 j45 = some ra := hF
  unfold ref04_others_j8 at hF
  exact ⟨j45, hF, (by kernel_rfl)⟩
  rcases if_inv hF with ⟨h46, hF⟩ | ⟨h46, hF⟩
  refine w_cT (m := .top) h46 (s1 := S104) (by kernel_rfl) (by kernel_rfl) ?_
  refine w_seq ?_
  refine w_seq ?_
  refine w_reg ⟨[E2, E3, E4, E8, (105, .one .top (.bool (decide (p1.Imm_ > 1))))], [B5, B6, B7], H⟩ (by kernel_rfl) ?_
  rcases if_inv hF with ⟨h47, hF⟩ | ⟨h47, hF⟩
  refine w_cT (m := .top) h47 (s1 := S88) (by kernel_rfl) (by kernel_rfl) ?_
  refine w_seq ?_
  obtain ⟨r48, c49, hF⟩ := bind1_inv hF
  let E66 : EN := (107, .agg (m1_ref04_Cpu r48))
  refine w_regO ⟨[E4], [(6, (m1_ref04_Cpu r48))], H⟩ ?_ ?_
  refine o_run 1 S114 (by kernel_rfl) (by kernel_rfl) ?_
  refine o_one ⟨[E2, E4, E65, E66], [B5, B7], H⟩ (st_call (d := (some 107)) (fz := false) (pure := true) (own := false) S114 (ok_ref04_fault H c49) (by kernel_rfl) (by kernel_rfl)) ?_
  refine o_run 1 ⟨[E2, E4, E65, E66], [B5, (6, (m1_ref04_Cpu r48))], H⟩ (by kernel_rfl) (by kernel_rfl) ?_
  exact o_end (by kernel_rfl) (by kernel_rfl)
  refine w_ret ?_
  obtain e0 := some1_inv hF
  subst e0
  exact fin_pure (v := .agg (m1_ref04_Cpu r48)) (by kernel_rfl) (by kernel_rfl) rfl (by kernel_rfl)
  refine w_cF (m := .top) h47 (s1 := S104) (by kernel_rfl) (by kernel_rfl) ?_
  refine w_skip ?_
  refine w_seq ?_
  obtain ⟨v50, h51, hF⟩ := bind1_inv hF
  obtain ⟨v52, h53, hF⟩ := bind1_inv hF
  let B67 : EB := (3, (arM .u32 16 v52 ++ [(.top, .int .u32 p0.PC_), (.top, .int .u32 p0.EPC_), (.top, .int .u32 p0.Cause_), (.top, .int .i64 p0.State_), (.top, .int .i64 p0.Why_), (.top, .int .i64 p0.Steps_), (.top, .int .i64 p0.Taken_), ((.own 0), .sl 2 (List.map e_api_Event p0.Out_)), (.top, .int .u32 p0.Entry_), (.top, .int .u32 p0.Vector_), (.top, .int .u32 p0.Guard_), (.top, .int .u32 p0.Limit_), ((.own 0), .sl 1 (List.map (eI .i32) p0.Input_))]))
  let S115 : St := ⟨[E2, E3, E4, E8], [B67, B6, B7], H⟩
  let S118 : St := ⟨[E2, E3, E4, E8, E75, E76, E77, E78, E79], [B67, B6, B7], H⟩
  let S119 : St := ⟨[E2, E3, E4, E8, E75, E76, E77, E78, E79, E80], [B67, B6, B7], H⟩
  refine w_regO S115 ?_ ?_
  refine o_run 5 S116 (by kernel_rfl) (by kernel_rfl) ?_
  refine o_one S117 (st_ixL (X := X) S116 46 35 16 h51 3 0 (some 113) (by kernel_rfl) (by kernel_rfl) (by kernel_rfl) (by kernel_rfl)) ?_
  refine o_one ⟨[E2, E3, E4, E8, E68, E69, E70, E71, E72, E73], [B67, B6, B7], H⟩ (st_stL (X := X) S117 35 16 h53 3 0 (arM .u32 16 p0.R_ ++ [(.top, .int .u32 p0.PC_), (.top, .int .u32 p0.EPC_), (.top, .int .u32 p0.Cause_), (.top, .int .i64 p0.State_), (.top, .int .i64 p0.Why_), (.top, .int .i64 p0.Steps_), (.top, .int .i64 p0.Taken_), ((.own 0), .sl 2 (List.map e_api_Event p0.Out_)), (.top, .int .u32 p0.Entry_), (.top, .int .u32 p0.Vector_), (.top, .int .u32 p0.Guard_), (.top, .int .u32 p0.Limit_), ((.own 0), .sl 1 (List.map (eI .i32) p0.Input_))]) (fun q => .int .u32 q) ⟨true, []⟩ (by kernel_rfl) (by kernel_rfl) (by kernel_rfl) (by kernel_rfl) (by kernel_rfl) (fun _ => rfl) (by kernel_rfl)) ?_
  exact o_end (by kernel_rfl) (by kernel_rfl)
  refine w_seq ?_
  refine w_reg ⟨[E2, E3, E4, E8, (116, .one .top (.bool (p1.Imm_ == 1)))], [B67, B6, B7], H⟩ (by kernel_rfl) ?_
  refine w_join (α := (T_ref04_Cpu)) (fun x => (⟨[E2, E4, E8], [(3, (m1_ref04_Cpu x)), B7], H⟩ : St)) (fun x => ref04_others_j9 p0 x = some ra) ?_ ?_
  rintro j54 hF
  replace hF : ref04_others_j9 p0 j54 = some ra := hF
  unfold ref04_others_j9 at hF
  exact ⟨j54, hF, (by kernel_rfl)⟩
  rcases if_inv hF with ⟨h55, hF⟩ | ⟨h55, hF⟩
  refine w_cT (m := .top) h55 (s1 := S115) (by kernel_rfl) (by kernel_rfl) ?_
  obtain ⟨v56, h57, hF⟩ := bind1_inv hF
  obtain ⟨v58, h59, hF⟩ := bind1_inv hF
  let B74 : EB := (3, (arM .u32 16 v58 ++ [(.top, .int .u32 p0.PC_), (.top, .int .u32 p0.EPC_), (.top, .int .u32 p0.Cause_), (.top, .int .i64 p0.State_), (.top, .int .i64 p0.Why_), (.top, .int .i64 p0.Steps_), (.top, .int .i64 p0.Taken_), ((.own 0), .sl 2 (List.map e_api_Event p0.Out_)), (.top, .int .u32 p0.Entry_), (.top, .int .u32 p0.Vector_), (.top, .int .u32 p0.Guard_), (.top, .int .u32 p0.Limit_), ((.own 0), .sl 1 (List.map (eI .i32) p0.Input_))]))
  refine w_regO ⟨[E2, E4, E8], [B74, B7], H⟩ ?_ ?_
  refine o_run 5 S118 (by kernel_rfl) (by kernel_rfl) ?_
  refine o_one S119 (st_ixL (X := X) S118 46 35 16 h57 3 0 (some 122) (by kernel_rfl) (by kernel_rfl) (by kernel_rfl) (by kernel_rfl)) ?_
  refine o_one ⟨[E2, E3, E4, E8, E75, E76, E77, E78, E79, E80], [B74, B6, B7], H⟩ (st_stL (X := X) S119 35 16 h59 3 0 (arM .u32 16 v52 ++ [(.top, .int .u32 p0.PC_), (.top, .int .u32 p0.EPC_), (.top, .int .u32 p0.Cause_), (.top, .int .i64 p0.State_), (.top, .int .i64 p0.Why_), (.top, .int .i64 p0.Steps_), (.top, .int .i64 p0.Taken_), ((.own 0), .sl 2 (List.map e_api_Event p0.Out_)), (.top, .int .u32 p0.Entry_), (.top, .int .u32 p0.Vector_), (.top, .int .u32 p0.Guard_), (.top, .int .u32 p0.Limit_), ((.own 0), .sl 1 (List.map (eI .i32) p0.Input_))]) (fun q => .int .u32 q) ⟨true, []⟩ (by kernel_rfl) (by kernel_rfl) (by kernel_rfl) (by kernel_rfl) (by kernel_rfl) (fun _ => rfl) (by kernel_rfl)) ?_
  exact o_end (by kernel_rfl) (by kernel_rfl)
  exact ⟨(T_ref04_Cpu.mk v58 p0.PC_ p0.EPC_ p0.Cause_ p0.State_ p0.Why_ p0.Steps_ p0.Taken_ p0.Out_ p0.Entry_ p0.Vector_ p0.Guard_ p0.Limit_ p0.Input_), hF, (by kernel_rfl)⟩
  refine w_cF (m := .top) h55 (s1 := (⟨[E2, E4, E8], [B67, B7], H⟩ : St)) (by kernel_rfl) (by kernel_rfl) ?_
  refine w_skip ?_
  exact ⟨(T_ref04_Cpu.mk v52 p0.PC_ p0.EPC_ p0.Cause_ p0.State_ p0.Why_ p0.Steps_ p0.Taken_ p0.Out_ p0.Entry_ p0.Vector_ p0.Guard_ p0.Limit_ p0.Input_), hF, (by kernel_rfl)⟩
  refine w_cF (m := .top) h46 (s1 := S87) (by kernel_rfl) (by kernel_rfl) ?_
  refine w_skip ?_
  exact ⟨p0, hF, (by kernel_rfl)⟩
end Go.Proofs.Abs
