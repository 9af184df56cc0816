/- The law TypesTells: whatever the input, it answers true. No conditions. (Part TypesTellsF1 of its proof.) -/
import Derived.Test.YtdfdjhimecmkfaaTypesTellsF0
set_option linter.unusedVariables false
set_option linter.unusedSimpArgs false
set_option linter.unusedSectionVars false
/- Printed by gen (walk.py). -/
namespace Go.Proofs.Abs
open Go Go.Proofs
set_option linter.unusedVariables false
set_option maxRecDepth 100000
set_option maxHeartbeats 0
noncomputable def ref09_AddField  (p0 : (List T_ref09_Type)) (p1 : Int) (p2 : ByteArray) (p3 : Int) : Option ((List T_ref09_Type) × Int) :=
  bind1 (ref09_Get p0 p1) fun r1 =>
  if ((r1.Kind_ != 6) || (!r1.Open_)) = true then (some (p0, 111))
  else (bind1 (ref09_Whole p0 p3) fun r5 =>
  if (!r5) = true then (some (p0, 91))
  else (bind2 (ref09_Find p0 p1 p2) fun r8 r9 =>
  if (r9 == 0) = true then (some (p0, 51))
  else (bind1 (ref09_Get p0 p3) fun r12 =>
  if (decide ((IntKind.wrap .i64 (r1.Size_ + r12.Size_)) > 16384)) = true then (some (p0, 90))
  else (bind1 (app 32 ([] : List T_ref09_Field) r1.Fields_) fun v15 =>
  bind1 (app 32 v15 ([(T_ref09_Field.mk p2 p3 r1.Size_)] : List T_ref09_Field)) fun v17 =>
  bind1 (ref09_put p0 p1 (T_ref09_Type.mk r1.Kind_ r1.Len_ r1.Base_ (IntKind.wrap .i64 (r1.Size_ + r12.Size_)) r1.Open_ v17)) fun r19 =>
  some (r19, 0)))))
theorem ok_ref09_AddField (H : Heap) {p0 : (List T_ref09_Type)} {p1 : Int} {p2 : ByteArray} {p3 : Int} {ra : (List T_ref09_Type)} {rb : Int} (hF : ref09_AddField p0 p1 p2 p3 = some (ra, rb)) : evS X 97 [.one (.own 0) (.sl 6 (List.map e_ref09_Type p0)), .one .top (.int .i64 p1), .one .top (.str p2), .one .top (.int .i64 p3)] H = some (.tup [.one (.own 0) (.sl 6 (List.map e_ref09_Type ra)), .one .top (.int .i64 rb)], H) := by
  let E1 : Nat × TV := (0, .one (.own 0) (.sl 6 (List.map e_ref09_Type p0)))
  let E2 : Nat × TV := (1, .one .top (.int .i64 p1))
  let E3 : Nat × TV := (2, .one .top (.str p2))
  let E4 : Nat × TV := (3, .one .top (.int .i64 p3))
  let E5 : Nat × TV := (10, .one .top (.loc 10 0))
  let E7 : Nat × TV := (14, .one (.own 0) (.sl 6 (List.map e_ref09_Type p0)))
  let E8 : Nat × TV := (15, .one .top (.int .i64 p1))
  let E9 : Nat × TV := (17, .one .top (.loc 10 0))
  let E11 : Nat × TV := (8, .one (.own 0) (.sl 6 (List.map e_ref09_Type p0)))
  let E12 : Nat × TV := (26, .one (.own 0) (.sl 6 (List.map e_ref09_Type p0)))
  let E13 : Nat × TV := (27, .one .top (.int .i64 p3))
  let E14 : Nat × TV := (32, .one (.own 0) (.sl 6 (List.map e_ref09_Type p0)))
  let E15 : Nat × TV := (33, .one .top (.int .i64 p1))
  let E16 : Nat × TV := (34, .one .top (.str p2))
  let E19 : Nat × TV := (41, .one (.own 0) (.sl 6 (List.map e_ref09_Type p0)))
  let E20 : Nat × TV := (42, .one .top (.int .i64 p3))
  let E22 : Nat × TV := (52, .one .top (.loc 10 5))
  let E23 : Nat × TV := (55, .one .top (.str p2))
  let E24 : Nat × TV := (56, .one .top (.int .i64 p3))
  let E25 : Nat × TV := (57, .one .top (.loc 10 3))
  let E26 : Nat × TV := (51, .one .top .junk)
  let E28 : Nat × TV := (54, .one .top .junk)
  let E31 : Nat × TV := (60, .one .top .junk)
  let E32 : Nat × TV := (61, .one .top .junk)
  let E33 : Nat × TV := (62, .one .top (.loc 10 5))
  let E34 : Nat × TV := (51, .one (.own 1) (.sl 3 (List.map e_ref09_Field ([] : List T_ref09_Field))))
  let E39 : Nat × TV := (68, .one (.own 0) (.sl 6 (List.map e_ref09_Type p0)))
  let E40 : Nat × TV := (69, .one .top (.int .i64 p1))
  let S44 : St := ⟨[E1, E2, E3, E4], [], H⟩
  let S46 : St := ⟨[E1, E2, E3, E4, E7, E8], [], H⟩
  let S47 : St := ⟨[E1], [], H⟩
  refine w_fun Try.func97 rfl (by kernel_rfl) true (by kernel_rfl) (s0 := S44) (by kernel_rfl) ?_
  unfold ref09_AddField at hF
  refine w_seq ?_
  refine w_reg S44 (by kernel_rfl) ?_
  refine w_seq ?_
  obtain ⟨r1, c2, hF⟩ := bind1_inv hF
  let B6 : Nat × List MC := (10, (m0_ref09_Type r1))
  let E10 : Nat × TV := (18, .one .top (.int .i64 r1.Kind_))
  let E27 : Nat × TV := (53, .one (.own 0) (.sl 3 (List.map e_ref09_Field r1.Fields_)))
  let E29 : Nat × TV := (58, .one .top (.int .i64 r1.Size_))
  let E30 : Nat × TV := (59, .agg [(.top, .str p2), (.top, .int .i64 p3), (.top, .int .i64 r1.Size_)])
  let E36 : Nat × TV := (60, .one (.own 1) (.sl 3 (List.map e_ref09_Field ([(T_ref09_Field.mk p2 p3 r1.Size_)] : List T_ref09_Field))))
  let S45 : St := ⟨[E1, E2, E3, E4, E5], [B6], H⟩
  let S48 : St := ⟨[E1, E2, E3, E4, E5, E12, E13], [B6], H⟩
  let S49 : St := ⟨[E1, E2, E3, E4, E5, E14, E15, E16], [B6], H⟩
  let S51 : St := ⟨[E1, E2, E3, E4, E5, E19, E20], [B6], H⟩
  refine w_regO S45 ?_ ?_
  refine o_run 2 S46 (by kernel_rfl) (by kernel_rfl) ?_
  refine o_one ⟨[E1, E2, E3, E4, E7, E8, (16, .agg (m0_ref09_Type r1))], [], H⟩ (st_call (d := (some 16)) (fz := false) (pure := true) (own := false) S46 (ok_ref09_Get H c2) (by kernel_rfl) (by kernel_rfl)) ?_
  refine o_run 2 ⟨[E1, E2, E3, E4, E5, E7, E8, (16, .agg (m0_ref09_Type r1))], [B6], H⟩ (by kernel_rfl) (by kernel_rfl) ?_
  exact o_end (by kernel_rfl) (by kernel_rfl)
  refine w_seq ?_
  refine w_seq ?_
  refine w_regO ⟨[E1, E2, E3, E4, E5, (24, .one .top (.bool ((r1.Kind_ != 6) || (!r1.Open_))))], [B6], H⟩ ?_ ?_
  refine o_run 4 ⟨[E1, E2, E3, E4, E5, E9, E10, (19, .one .top (.bool (r1.Kind_ != 6))), (20, .one .top (.bool (r1.Kind_ != 6)))], [B6], H⟩ (by kernel_rfl) (by kernel_rfl) ?_
  rcases bool_cases (r1.Kind_ != 6) with h3 | h3
  refine o_eq (congrArg (fun q => (⟨[E1, E2, E3, E4, E5, E9, E10, (19, .one .top (.bool q)), (20, .one .top (.bool q))], [B6], H⟩ : St)) h3) ?_
  refine o_run 4 ⟨[E1, E2, E3, E4, E5, E9, E10, (19, .one .top (.bool true)), (20, .one .top (.bool true)), (21, .tup []), (22, .tup []), (23, .tup []), (24, .one .top (.bool true))], [B6], H⟩ (by kernel_rfl) (by kernel_rfl) ?_
  refine o_eq2 (congrArg (fun q0 => (⟨[E1, E2, E3, E4, E5, (24, .one .top (.bool q0))], [B6], H⟩ : St)) (show true = ((r1.Kind_ != 6) || (!r1.Open_)) by simp [h3])) ?_
  exact o_end (by kernel_rfl) (by kernel_rfl)
  refine o_eq (congrArg (fun q => (⟨[E1, E2, E3, E4, E5, E9, E10, (19, .one .top (.bool q)), (20, .one .top (.bool q))], [B6], H⟩ : St)) h3) ?_
  refine o_run 4 ⟨[E1, E2, E3, E4, E5, E9, E10, (19, .one .top (.bool false)), (20, .one .top (.bool false)), (21, .one .top (.loc 10 4)), (22, .one .top (.bool r1.Open_)), (23, .one .top (.bool (!r1.Open_))), (24, .one .top (.bool (!r1.Open_)))], [B6], H⟩ (by kernel_rfl) (by kernel_rfl) ?_
  refine o_eq2 (congrArg (fun q0 => (⟨[E1, E2, E3, E4, E5, (24, .one .top (.bool q0))], [B6], H⟩ : St)) (show (!r1.Open_) = ((r1.Kind_ != 6) || (!r1.Open_)) by simp [h3])) ?_
  exact o_end (by kernel_rfl) (by kernel_rfl)
  rcases if_inv hF with ⟨h4, hF⟩ | ⟨h4, hF⟩
  refine w_cT (m := .top) h4 (s1 := S47) (by kernel_rfl) (by kernel_rfl) ?_
  refine w_seq ?_
  refine w_reg ⟨[E11, (9, .one .top (.int .i64 111))], [], H⟩ (by kernel_rfl) ?_
  refine w_ret ?_
  obtain ⟨e0, e1⟩ := some2_inv hF
  subst e0
  subst e1
  exact fin_pure (v := .tup [.one (.own 0) (.sl 6 (List.map e_ref09_Type p0)), .one .top (.int .i64 111)]) (by kernel_rfl) (by kernel_rfl) rfl (by kernel_rfl)
  refine w_cF (m := .top) h4 (s1 := S45) (by kernel_rfl) (by kernel_rfl) ?_
  refine w_skip ?_
  refine w_seq ?_
  refine w_seq ?_
  obtain ⟨r5, c6, hF⟩ := bind1_inv hF
  refine w_regO ⟨[E1, E2, E3, E4, E5, (29, .one .top (.bool (!r5)))], [B6], H⟩ ?_ ?_
  refine o_run 2 S48 (by kernel_rfl) (by kernel_rfl) ?_
  refine o_one ⟨[E1, E2, E3, E4, E5, E12, E13, (28, .one .top (.bool r5))], [B6], H⟩ (st_call (d := (some 28)) (fz := false) (pure := true) (own := false) S48 (ok_ref09_Whole H c6) (by kernel_rfl) (by kernel_rfl)) ?_
  refine o_run 1 ⟨[E1, E2, E3, E4, E5, E12, E13, (28, .one .top (.bool r5)), (29, .one .top (.bool (!r5)))], [B6], H⟩ (by kernel_rfl) (by kernel_rfl) ?_
  exact o_end (by kernel_rfl) (by kernel_rfl)
  rcases if_inv hF with ⟨h7, hF⟩ | ⟨h7, hF⟩
  refine w_cT (m := .top) h7 (s1 := S47) (by kernel_rfl) (by kernel_rfl) ?_
  refine w_seq ?_
  refine w_reg ⟨[E11, (9, .one .top (.int .i64 91))], [], H⟩ (by kernel_rfl) ?_
  refine w_ret ?_
  obtain ⟨e0, e1⟩ := some2_inv hF
  subst e0
  subst e1
  exact fin_pure (v := .tup [.one (.own 0) (.sl 6 (List.map e_ref09_Type p0)), .one .top (.int .i64 91)]) (by kernel_rfl) (by kernel_rfl) rfl (by kernel_rfl)
  refine w_cF (m := .top) h7 (s1 := S45) (by kernel_rfl) (by kernel_rfl) ?_
  refine w_skip ?_
  refine w_seq ?_
  refine w_seq ?_
  obtain ⟨r8, r9, c10, hF⟩ := bind2_inv hF
  let E17 : Nat × TV := (35, .tup [.agg (m0_ref09_Field r8), .one .top (.int .i64 r9)])
  refine w_regO ⟨[E1, E2, E3, E4, E5, (12, .one .top (.int .i64 r9))], [B6], H⟩ ?_ ?_
  refine o_run 3 S49 (by kernel_rfl) (by kernel_rfl) ?_
  refine o_one ⟨[E1, E2, E3, E4, E5, E14, E15, E16, E17], [B6], H⟩ (st_call (d := (some 35)) (fz := false) (pure := true) (own := false) S49 (ok_ref09_Find H c10) (by kernel_rfl) (by kernel_rfl)) ?_
  refine o_run 6 ⟨[E1, E2, E3, E4, E5, (11, .one .top (.loc 11 0)), (12, .one .top (.int .i64 r9)), (31, .tup [.agg (m0_ref09_Field r8), .one .top (.int .i64 r9)]), E14, E15, E16, E17, (36, .agg (m0_ref09_Field r8)), (37, .one .top (.int .i64 r9))], [B6, (11, (m0_ref09_Field r8))], H⟩ (by kernel_rfl) (by kernel_rfl) ?_
  exact o_end (by kernel_rfl) (by kernel_rfl)
  refine w_seq ?_
  refine w_reg ⟨[E1, E2, E3, E4, E5, (39, .one .top (.bool (r9 == 0)))], [B6], H⟩ (by kernel_rfl) ?_
  rcases if_inv hF with ⟨h11, hF⟩ | ⟨h11, hF⟩
  refine w_cT (m := .top) h11 (s1 := S47) (by kernel_rfl) (by kernel_rfl) ?_
  refine w_seq ?_
  refine w_reg ⟨[E11, (9, .one .top (.int .i64 51))], [], H⟩ (by kernel_rfl) ?_
  refine w_ret ?_
  obtain ⟨e0, e1⟩ := some2_inv hF
  subst e0
  subst e1
  exact fin_pure (v := .tup [.one (.own 0) (.sl 6 (List.map e_ref09_Type p0)), .one .top (.int .i64 51)]) (by kernel_rfl) (by kernel_rfl) rfl (by kernel_rfl)
  refine w_cF (m := .top) h11 (s1 := S45) (by kernel_rfl) (by kernel_rfl) ?_
  refine w_skip ?_
  refine w_seq ?_
  obtain ⟨r12, c13, hF⟩ := bind1_inv hF
  let E18 : Nat × TV := (13, .one .top (.int .i64 r12.Size_))
  let B41 : Nat × List MC := (10, [(.top, .int .i64 r1.Kind_), (.top, .int .i64 r1.Len_), (.top, .int .i64 r1.Base_), (.top, .int .i64 (IntKind.wrap .i64 (r1.Size_ + r12.Size_))), (.top, .bool r1.Open_), (.top, .junk)])
  let E42 : Nat × TV := (70, .agg [(.top, .int .i64 r1.Kind_), (.top, .int .i64 r1.Len_), (.top, .int .i64 r1.Base_), (.top, .int .i64 (IntKind.wrap .i64 (r1.Size_ + r12.Size_))), (.top, .bool r1.Open_), (.top, .junk)])
  let S50 : St := ⟨[E1, E2, E3, E4, E5, E18], [B6], H⟩
  let S53 : St := ⟨[E1, E2, E3, E4, E5, E18, E34, E22, E27, E23, E24, E25], [B6], H⟩
  let S55 : St := ⟨[E1, E2, E3, E4, E5, E18, E26, E22, E27, E23, E24, E25], [B6], H⟩
  let S60 : St := ⟨[E1, E2, E3, E4, E5, E18, E26, E22, E27, E28, E23, E24, E25, E29, E30, E31], [B6], H⟩
  let S62 : St := ⟨[E1, E2, E3, E4, E5, E18, E34, E22, E27, E23, E24, E25, E29], [B6], H⟩
  let S63 : St := ⟨[E1, E2, E3, E4, E5, E18, E34, E22, E27, E23, E24, E25, E29, E30], [B6], H⟩
  let S64 : St := ⟨[E1, E2, E3, E4, E5, E18, E26, E22, E27, E23, E24, E25, E29, E30], [B6], H⟩
  let S65 : St := ⟨[E1, E2, E3, E4, E5, E18, E34, E22, E27, E23, E24, E25, E29, E30, E36], [B6], H⟩
  let S66 : St := ⟨[E1, E2, E3, E4, E5, E18, E26, E22, E27, E23, E24, E25, E29, E30, E36], [B6], H⟩
  let S67 : St := ⟨[E1, E2, E3, E4, E5, E18, E34, E22, E23, E24, E25, E29, E30], [B6], H⟩
  let S68 : St := ⟨[E1, E2, E3, E4, E5, E18, E34, E22, E23, E24, E25, E29, E30, E36], [B6], H⟩
  let S69 : St := ⟨[E1, E2, E3, E4, E5, E18, E22, E27, E23, E24, E25, E29, E30], [B6], H⟩
  let S70 : St := ⟨[E1, E2, E3, E4, E5, E18, E22, E27, E23, E24, E25, E29, E30, E36], [B6], H⟩
  refine w_regO S50 ?_ ?_
  refine o_run 2 S51 (by kernel_rfl) (by kernel_rfl) ?_
  refine o_one ⟨[E1, E2, E3, E4, E5, E19, E20, (43, .agg (m0_ref09_Type r12))], [B6], H⟩ (st_call (d := (some 43)) (fz := false) (pure := true) (own := false) S51 (ok_ref09_Get H c13) (by kernel_rfl) (by kernel_rfl)) ?_
  refine o_run 2 ⟨[E1, E2, E3, E4, E5, E18, E19, E20, (43, .agg (m0_ref09_Type r12)), (44, .one .top (.int .i64 r12.Size_))], [B6], H⟩ (by kernel_rfl) (by kernel_rfl) ?_
  exact o_end (by kernel_rfl) (by kernel_rfl)
  refine w_seq ?_
  refine w_seq ?_
  refine w_reg ⟨[E1, E2, E3, E4, E5, E18, (49, .one .top (.bool (decide ((IntKind.wrap .i64 (r1.Size_ + r12.Size_)) > 16384))))], [B6], H⟩ (by kernel_rfl) ?_
  rcases if_inv hF with ⟨h14, hF⟩ | ⟨h14, hF⟩
  refine w_cT (m := .top) h14 (s1 := S47) (by kernel_rfl) (by kernel_rfl) ?_
  refine w_seq ?_
  refine w_reg ⟨[E11, (9, .one .top (.int .i64 90))], [], H⟩ (by kernel_rfl) ?_
  refine w_ret ?_
  obtain ⟨e0, e1⟩ := some2_inv hF
  subst e0
  subst e1
  exact fin_pure (v := .tup [.one (.own 0) (.sl 6 (List.map e_ref09_Type p0)), .one .top (.int .i64 90)]) (by kernel_rfl) (by kernel_rfl) rfl (by kernel_rfl)
  refine w_cF (m := .top) h14 (s1 := S50) (by kernel_rfl) (by kernel_rfl) ?_
  refine w_skip ?_
  refine w_seq ?_
  obtain ⟨v15, h16, hF⟩ := bind1_inv hF
  let E35 : Nat × TV := (54, .one (.own 1) (.sl 3 (List.map e_ref09_Field v15)))
  let S54 : St := ⟨[E1, E2, E3, E4, E5, E18, E26, E22, E27, E35, E23, E24, E25], [B6], H⟩
  let S56 : St := ⟨[E1, E2, E3, E4, E5, E18, E26, E22, E27, E35, E23, E24, E25, E29], [B6], H⟩
  let S57 : St := ⟨[E1, E2, E3, E4, E5, E18, E26, E22, E27, E35, E23, E24, E25, E29, E30], [B6], H⟩
  let S58 : St := ⟨[E1, E2, E3, E4, E5, E18, E26, E22, E27, E35, E23, E24, E25, E29, E30, E36], [B6], H⟩
  obtain ⟨v17, h18, hF⟩ := bind1_inv hF
  let B21 : Nat × List MC := (10, [(.top, .int .i64 r1.Kind_), (.top, .int .i64 r1.Len_), (.top, .int .i64 r1.Base_), (.top, .int .i64 r1.Size_), (.top, .bool r1.Open_), ((.own 1), .sl 3 (List.map e_ref09_Field v17))])
  let E37 : Nat × TV := (61, .one (.own 1) (.sl 3 (List.map e_ref09_Field v17)))
  let S52 : St := ⟨[E1, E2, E3, E4, E5, E18, E26, E22, E27, E28, E23, E24, E25, E29, E30, E31, E32, E33], [B21], H⟩
  let S59 : St := ⟨[E1, E2, E3, E4, E5, E18, E26, E22, E27, E28, E23, E24, E25, E29, E30, E31, E37], [B6], H⟩
  let S61 : St := ⟨[E1, E2, E3, E4, E5, E18, E26, E22, E27, E28, E23, E24, E25, E29, E30, E31, E37, E33], [B6], H⟩
  let K74 : Sch := .last 3 (.last 10 (.take 11 (.last 12 .done)))
  let K72 : Sch := .alt 2 (.alt 3 (.last 9 (.last 10 (.take 11 (.last 12 .done)))) (.last 9 K74)) (.last 9 (.last 2 K74))
  let K73 : Sch := .alt 0 (.alt 3 (.last 9 (.last 10 (.take 11 (.last 12 .done)))) (.last 9 K74)) (.last 9 (.last 0 K74))
  let K71 : Sch := .alt 3 (.last 7 (.take 8 (.last 9 (.last 10 (.take 11 (.last 12 .done)))))) (.last 7 (.take 8 (.alt 3 (.last 9 (.last 10 (.take 11 (.last 12 .done)))) (.last 9 K74))))
  refine w_regD (.take 1 (.take 4 (.take 5 (.take 6 (.alt 0 (.alt 2 K71 (.last 7 (.take 8 K72))) (.alt 2 (.alt 0 K71 (.last 7 (.take 8 K73))) (.last 7 (.take 8 (.alt 0 K72 (.alt 2 K73 (.last 9 (.alt 0 (.last 2 K74) (.last 2 (.last 0 K74)))))))))))))) (by kernel_rfl) (⟨[E1, E2, E5, E18], [B21], H⟩ : St) ?_ ?_
  refine d_take ⟨[E1, E2, E3, E4, E5, E18, E22], [B6], H⟩ (by kernel_rfl) ?_
  refine d_take ⟨[E1, E2, E3, E4, E5, E18, E22, E23], [B6], H⟩ (by kernel_rfl) ?_
  refine d_take ⟨[E1, E2, E3, E4, E5, E18, E22, E23, E24], [B6], H⟩ (by kernel_rfl) ?_
  refine d_take ⟨[E1, E2, E3, E4, E5, E18, E22, E23, E24, E25], [B6], H⟩ (by kernel_rfl) ?_
  refine q_in S52 ?_ ?_
  refine q_alt ⟨[E1, E2, E3, E4, E5, E18, E34, E22, E23, E24, E25], [B6], H⟩ (by kernel_rfl) ?_ ?_
  refine q_alt S53 (by kernel_rfl) ?_ ?_
  refine q_alt S54 (st_app (X := X) S55 32 h16 75 75 71 3 0 [(.top, .str ByteArray.empty), (.top, .int .i64 0), (.top, .int .i64 0)] (.own 0) e_ref09_Field 0 (some 54) (by kernel_rfl) (by kernel_rfl) (by kernel_rfl) (by kernel_rfl) (by kernel_rfl) (by kernel_rfl) (by kernel_rfl) (by kernel_rfl) (by kernel_rfl) (fun _ => rfl) (by kernel_rfl)) ?_ ?_
  refine q_last S56 (by kernel_rfl) ?_
  refine q_take S57 (by kernel_rfl) ?_
  refine q_last S58 (by kernel_rfl) ?_
  refine q_last S59 (st_app (X := X) S60 32 h18 75 75 71 3 0 [(.top, .str ByteArray.empty), (.top, .int .i64 0), (.top, .int .i64 0)] (.own 1) e_ref09_Field 0 (some 61) (by kernel_rfl) (by kernel_rfl) (by kernel_rfl) (by kernel_rfl) (by kernel_rfl) (by kernel_rfl) (by kernel_rfl) (by kernel_rfl) (by kernel_rfl) (fun _ => rfl) (by kernel_rfl)) ?_
  refine q_take S61 (by kernel_rfl) ?_
  refine q_last S52 (by kernel_rfl) ?_
  exact q_end (by kernel_rfl)
  refine q_last S62 (by kernel_rfl) ?_
  refine q_take S63 (by kernel_rfl) ?_
  refine q_alt S57 (st_app (X := X) S64 32 h16 75 75 71 3 0 [(.top, .str ByteArray.empty), (.top, .int .i64 0), (.top, .int .i64 0)] (.own 0) e_ref09_Field 0 (some 54) (by kernel_rfl) (by kernel_rfl) (by kernel_rfl) (by kernel_rfl) (by kernel_rfl) (by kernel_rfl) (by kernel_rfl) (by kernel_rfl) (by kernel_rfl) (fun _ => rfl) (by kernel_rfl)) ?_ ?_
  refine q_last S58 (by kernel_rfl) ?_
  refine q_last S59 (st_app (X := X) S60 32 h18 75 75 71 3 0 [(.top, .str ByteArray.empty), (.top, .int .i64 0), (.top, .int .i64 0)] (.own 1) e_ref09_Field 0 (some 61) (by kernel_rfl) (by kernel_rfl) (by kernel_rfl) (by kernel_rfl) (by kernel_rfl) (by kernel_rfl) (by kernel_rfl) (by kernel_rfl) (by kernel_rfl) (fun _ => rfl) (by kernel_rfl)) ?_
  refine q_take S61 (by kernel_rfl) ?_
  refine q_last S52 (by kernel_rfl) ?_
  exact q_end (by kernel_rfl)
  refine q_last S65 (by kernel_rfl) ?_
  refine q_last S58 (st_app (X := X) S66 32 h16 75 75 71 3 0 [(.top, .str ByteArray.empty), (.top, .int .i64 0), (.top, .int .i64 0)] (.own 0) e_ref09_Field 0 (some 54) (by kernel_rfl) (by kernel_rfl) (by kernel_rfl) (by kernel_rfl) (by kernel_rfl) (by kernel_rfl) (by kernel_rfl) (by kernel_rfl) (by kernel_rfl) (fun _ => rfl) (by kernel_rfl)) ?_
  refine q_last S59 (st_app (X := X) S60 32 h18 75 75 71 3 0 [(.top, .str ByteArray.empty), (.top, .int .i64 0), (.top, .int .i64 0)] (.own 1) e_ref09_Field 0 (some 61) (by kernel_rfl) (by kernel_rfl) (by kernel_rfl) (by kernel_rfl) (by kernel_rfl) (by kernel_rfl) (by kernel_rfl) (by kernel_rfl) (by kernel_rfl) (fun _ => rfl) (by kernel_rfl)) ?_
  refine q_take S61 (by kernel_rfl) ?_
  refine q_last S52 (by kernel_rfl) ?_
  exact q_end (by kernel_rfl)
  refine q_last ⟨[E1, E2, E3, E4, E5, E18, E34, E22, E23, E24, E25, E29], [B6], H⟩ (by kernel_rfl) ?_
  refine q_take S67 (by kernel_rfl) ?_
  refine q_alt S63 (by kernel_rfl) ?_ ?_
  refine q_alt S57 (st_app (X := X) S64 32 h16 75 75 71 3 0 [(.top, .str ByteArray.empty), (.top, .int .i64 0), (.top, .int .i64 0)] (.own 0) e_ref09_Field 0 (some 54) (by kernel_rfl) (by kernel_rfl) (by kernel_rfl) (by kernel_rfl) (by kernel_rfl) (by kernel_rfl) (by kernel_rfl) (by kernel_rfl) (by kernel_rfl) (fun _ => rfl) (by kernel_rfl)) ?_ ?_
  refine q_last S58 (by kernel_rfl) ?_
  refine q_last S59 (st_app (X := X) S60 32 h18 75 75 71 3 0 [(.top, .str ByteArray.empty), (.top, .int .i64 0), (.top, .int .i64 0)] (.own 1) e_ref09_Field 0 (some 61) (by kernel_rfl) (by kernel_rfl) (by kernel_rfl) (by kernel_rfl) (by kernel_rfl) (by kernel_rfl) (by kernel_rfl) (by kernel_rfl) (by kernel_rfl) (fun _ => rfl) (by kernel_rfl)) ?_
  refine q_take S61 (by kernel_rfl) ?_
  refine q_last S52 (by kernel_rfl) ?_
  exact q_end (by kernel_rfl)
  refine q_last S65 (by kernel_rfl) ?_
  refine q_last S58 (st_app (X := X) S66 32 h16 75 75 71 3 0 [(.top, .str ByteArray.empty), (.top, .int .i64 0), (.top, .int .i64 0)] (.own 0) e_ref09_Field 0 (some 54) (by kernel_rfl) (by kernel_rfl) (by kernel_rfl) (by kernel_rfl) (by kernel_rfl) (by kernel_rfl) (by kernel_rfl) (by kernel_rfl) (by kernel_rfl) (fun _ => rfl) (by kernel_rfl)) ?_
  refine q_last S59 (st_app (X := X) S60 32 h18 75 75 71 3 0 [(.top, .str ByteArray.empty), (.top, .int .i64 0), (.top, .int .i64 0)] (.own 1) e_ref09_Field 0 (some 61) (by kernel_rfl) (by kernel_rfl) (by kernel_rfl) (by kernel_rfl) (by kernel_rfl) (by kernel_rfl) (by kernel_rfl) (by kernel_rfl) (by kernel_rfl) (fun _ => rfl) (by kernel_rfl)) ?_
  refine q_take S61 (by kernel_rfl) ?_
  refine q_last S52 (by kernel_rfl) ?_
  exact q_end (by kernel_rfl)
  refine q_last S68 (by kernel_rfl) ?_
  refine q_last S65 (by kernel_rfl) ?_
  refine q_last S58 (st_app (X := X) S66 32 h16 75 75 71 3 0 [(.top, .str ByteArray.empty), (.top, .int .i64 0), (.top, .int .i64 0)] (.own 0) e_ref09_Field 0 (some 54) (by kernel_rfl) (by kernel_rfl) (by kernel_rfl) (by kernel_rfl) (by kernel_rfl) (by kernel_rfl) (by kernel_rfl) (by kernel_rfl) (by kernel_rfl) (fun _ => rfl) (by kernel_rfl)) ?_
  refine q_last S59 (st_app (X := X) S60 32 h18 75 75 71 3 0 [(.top, .str ByteArray.empty), (.top, .int .i64 0), (.top, .int .i64 0)] (.own 1) e_ref09_Field 0 (some 61) (by kernel_rfl) (by kernel_rfl) (by kernel_rfl) (by kernel_rfl) (by kernel_rfl) (by kernel_rfl) (by kernel_rfl) (by kernel_rfl) (by kernel_rfl) (fun _ => rfl) (by kernel_rfl)) ?_
  refine q_take S61 (by kernel_rfl) ?_
  refine q_last S52 (by kernel_rfl) ?_
  exact q_end (by kernel_rfl)
  refine q_alt ⟨[E1, E2, E3, E4, E5, E18, E22, E27, E23, E24, E25], [B6], H⟩ (by kernel_rfl) ?_ ?_
  refine q_alt S53 (by kernel_rfl) ?_ ?_
  refine q_alt S54 (st_app (X := X) S55 32 h16 75 75 71 3 0 [(.top, .str ByteArray.empty), (.top, .int .i64 0), (.top, .int .i64 0)] (.own 0) e_ref09_Field 0 (some 54) (by kernel_rfl) (by kernel_rfl) (by kernel_rfl) (by kernel_rfl) (by kernel_rfl) (by kernel_rfl) (by kernel_rfl) (by kernel_rfl) (by kernel_rfl) (fun _ => rfl) (by kernel_rfl)) ?_ ?_
  refine q_last S56 (by kernel_rfl) ?_
  refine q_take S57 (by kernel_rfl) ?_
  refine q_last S58 (by kernel_rfl) ?_
  refine q_last S59 (st_app (X := X) S60 32 h18 75 75 71 3 0 [(.top, .str ByteArray.empty), (.top, .int .i64 0), (.top, .int .i64 0)] (.own 1) e_ref09_Field 0 (some 61) (by kernel_rfl) (by kernel_rfl) (by kernel_rfl) (by kernel_rfl) (by kernel_rfl) (by kernel_rfl) (by kernel_rfl) (by kernel_rfl) (by kernel_rfl) (fun _ => rfl) (by kernel_rfl)) ?_
  refine q_take S61 (by kernel_rfl) ?_
  refine q_last S52 (by kernel_rfl) ?_
  exact q_end (by kernel_rfl)
  refine q_last S62 (by kernel_rfl) ?_
  refine q_take S63 (by kernel_rfl) ?_
  refine q_alt S57 (st_app (X := X) S64 32 h16 75 75 71 3 0 [(.top, .str ByteArray.empty), (.top, .int .i64 0), (.top, .int .i64 0)] (.own 0) e_ref09_Field 0 (some 54) (by kernel_rfl) (by kernel_rfl) (by kernel_rfl) (by kernel_rfl) (by kernel_rfl) (by kernel_rfl) (by kernel_rfl) (by kernel_rfl) (by kernel_rfl) (fun _ => rfl) (by kernel_rfl)) ?_ ?_
  refine q_last S58 (by kernel_rfl) ?_
  refine q_last S59 (st_app (X := X) S60 32 h18 75 75 71 3 0 [(.top, .str ByteArray.empty), (.top, .int .i64 0), (.top, .int .i64 0)] (.own 1) e_ref09_Field 0 (some 61) (by kernel_rfl) (by kernel_rfl) (by kernel_rfl) (by kernel_rfl) (by kernel_rfl) (by kernel_rfl) (by kernel_rfl) (by kernel_rfl) (by kernel_rfl) (fun _ => rfl) (by kernel_rfl)) ?_
  refine q_take S61 (by kernel_rfl) ?_
  refine q_last S52 (by kernel_rfl) ?_
  exact q_end (by kernel_rfl)
  refine q_last S65 (by kernel_rfl) ?_
  refine q_last S58 (st_app (X := X) S66 32 h16 75 75 71 3 0 [(.top, .str ByteArray.empty), (.top, .int .i64 0), (.top, .int .i64 0)] (.own 0) e_ref09_Field 0 (some 54) (by kernel_rfl) (by kernel_rfl) (by kernel_rfl) (by kernel_rfl) (by kernel_rfl) (by kernel_rfl) (by kernel_rfl) (by kernel_rfl) (by kernel_rfl) (fun _ => rfl) (by kernel_rfl)) ?_
  refine q_last S59 (st_app (X := X) S60 32 h18 75 75 71 3 0 [(.top, .str ByteArray.empty), (.top, .int .i64 0), (.top, .int .i64 0)] (.own 1) e_ref09_Field 0 (some 61) (by kernel_rfl) (by kernel_rfl) (by kernel_rfl) (by kernel_rfl) (by kernel_rfl) (by kernel_rfl) (by kernel_rfl) (by kernel_rfl) (by kernel_rfl) (fun _ => rfl) (by kernel_rfl)) ?_
  refine q_take S61 (by kernel_rfl) ?_
  refine q_last S52 (by kernel_rfl) ?_
  exact q_end (by kernel_rfl)
  refine q_last ⟨[E1, E2, E3, E4, E5, E18, E22, E27, E23, E24, E25, E29], [B6], H⟩ (by kernel_rfl) ?_
  refine q_take S69 (by kernel_rfl) ?_
  refine q_alt S63 (by kernel_rfl) ?_ ?_
  refine q_alt S57 (st_app (X := X) S64 32 h16 75 75 71 3 0 [(.top, .str ByteArray.empty), (.top, .int .i64 0), (.top, .int .i64 0)] (.own 0) e_ref09_Field 0 (some 54) (by kernel_rfl) (by kernel_rfl) (by kernel_rfl) (by kernel_rfl) (by kernel_rfl) (by kernel_rfl) (by kernel_rfl) (by kernel_rfl) (by kernel_rfl) (fun _ => rfl) (by kernel_rfl)) ?_ ?_
  refine q_last S58 (by kernel_rfl) ?_
  refine q_last S59 (st_app (X := X) S60 32 h18 75 75 71 3 0 [(.top, .str ByteArray.empty), (.top, .int .i64 0), (.top, .int .i64 0)] (.own 1) e_ref09_Field 0 (some 61) (by kernel_rfl) (by kernel_rfl) (by kernel_rfl) (by kernel_rfl) (by kernel_rfl) (by kernel_rfl) (by kernel_rfl) (by kernel_rfl) (by kernel_rfl) (fun _ => rfl) (by kernel_rfl)) ?_
  refine q_take S61 (by kernel_rfl) ?_
  refine q_last S52 (by kernel_rfl) ?_
  exact q_end (by kernel_rfl)
  refine q_last S65 (by kernel_rfl) ?_
  refine q_last S58 (st_app (X := X) S66 32 h16 75 75 71 3 0 [(.top, .str ByteArray.empty), (.top, .int .i64 0), (.top, .int .i64 0)] (.own 0) e_ref09_Field 0 (some 54) (by kernel_rfl) (by kernel_rfl) (by kernel_rfl) (by kernel_rfl) (by kernel_rfl) (by kernel_rfl) (by kernel_rfl) (by kernel_rfl) (by kernel_rfl) (fun _ => rfl) (by kernel_rfl)) ?_
  refine q_last S59 (st_app (X := X) S60 32 h18 75 75 71 3 0 [(.top, .str ByteArray.empty), (.top, .int .i64 0), (.top, .int .i64 0)] (.own 1) e_ref09_Field 0 (some 61) (by kernel_rfl) (by kernel_rfl) (by kernel_rfl) (by kernel_rfl) (by kernel_rfl) (by kernel_rfl) (by kernel_rfl) (by kernel_rfl) (by kernel_rfl) (fun _ => rfl) (by kernel_rfl)) ?_
  refine q_take S61 (by kernel_rfl) ?_
  refine q_last S52 (by kernel_rfl) ?_
  exact q_end (by kernel_rfl)
  refine q_last S70 (by kernel_rfl) ?_
  refine q_last S65 (by kernel_rfl) ?_
  refine q_last S58 (st_app (X := X) S66 32 h16 75 75 71 3 0 [(.top, .str ByteArray.empty), (.top, .int .i64 0), (.top, .int .i64 0)] (.own 0) e_ref09_Field 0 (some 54) (by kernel_rfl) (by kernel_rfl) (by kernel_rfl) (by kernel_rfl) (by kernel_rfl) (by kernel_rfl) (by kernel_rfl) (by kernel_rfl) (by kernel_rfl) (fun _ => rfl) (by kernel_rfl)) ?_
  refine q_last S59 (st_app (X := X) S60 32 h18 75 75 71 3 0 [(.top, .str ByteArray.empty), (.top, .int .i64 0), (.top, .int .i64 0)] (.own 1) e_ref09_Field 0 (some 61) (by kernel_rfl) (by kernel_rfl) (by kernel_rfl) (by kernel_rfl) (by kernel_rfl) (by kernel_rfl) (by kernel_rfl) (by kernel_rfl) (by kernel_rfl) (fun _ => rfl) (by kernel_rfl)) ?_
  refine q_take S61 (by kernel_rfl) ?_
  refine q_last S52 (by kernel_rfl) ?_
  exact q_end (by kernel_rfl)
  refine q_last ⟨[E1, E2, E3, E4, E5, E18, E22, E23, E24, E25, E29], [B6], H⟩ (by kernel_rfl) ?_
  refine q_take ⟨[E1, E2, E3, E4, E5, E18, E22, E23, E24, E25, E29, E30], [B6], H⟩ (by kernel_rfl) ?_
  refine q_alt S67 (by kernel_rfl) ?_ ?_
  refine q_alt S63 (by kernel_rfl) ?_ ?_
  refine q_alt S57 (st_app (X := X) S64 32 h16 75 75 71 3 0 [(.top, .str ByteArray.empty), (.top, .int .i64 0), (.top, .int .i64 0)] (.own 0) e_ref09_Field 0 (some 54) (by kernel_rfl) (by kernel_rfl) (by kernel_rfl) (by kernel_rfl) (by kernel_rfl) (by kernel_rfl) (by kernel_rfl) (by kernel_rfl) (by kernel_rfl) (fun _ => rfl) (by kernel_rfl)) ?_ ?_
  refine q_last S58 (by kernel_rfl) ?_
  refine q_last S59 (st_app (X := X) S60 32 h18 75 75 71 3 0 [(.top, .str ByteArray.empty), (.top, .int .i64 0), (.top, .int .i64 0)] (.own 1) e_ref09_Field 0 (some 61) (by kernel_rfl) (by kernel_rfl) (by kernel_rfl) (by kernel_rfl) (by kernel_rfl) (by kernel_rfl) (by kernel_rfl) (by kernel_rfl) (by kernel_rfl) (fun _ => rfl) (by kernel_rfl)) ?_
  refine q_take S61 (by kernel_rfl) ?_
  refine q_last S52 (by kernel_rfl) ?_
  exact q_end (by kernel_rfl)
  refine q_last S65 (by kernel_rfl) ?_
  refine q_last S58 (st_app (X := X) S66 32 h16 75 75 71 3 0 [(.top, .str ByteArray.empty), (.top, .int .i64 0), (.top, .int .i64 0)] (.own 0) e_ref09_Field 0 (some 54) (by kernel_rfl) (by kernel_rfl) (by kernel_rfl) (by kernel_rfl) (by kernel_rfl) (by kernel_rfl) (by kernel_rfl) (by kernel_rfl) (by kernel_rfl) (fun _ => rfl) (by kernel_rfl)) ?_
  refine q_last S59 (st_app (X := X) S60 32 h18 75 75 71 3 0 [(.top, .str ByteArray.empty), (.top, .int .i64 0), (.top, .int .i64 0)] (.own 1) e_ref09_Field 0 (some 61) (by kernel_rfl) (by kernel_rfl) (by kernel_rfl) (by kernel_rfl) (by kernel_rfl) (by kernel_rfl) (by kernel_rfl) (by kernel_rfl) (by kernel_rfl) (fun _ => rfl) (by kernel_rfl)) ?_
  refine q_take S61 (by kernel_rfl) ?_
  refine q_last S52 (by kernel_rfl) ?_
  exact q_end (by kernel_rfl)
  refine q_last S68 (by kernel_rfl) ?_
  refine q_last S65 (by kernel_rfl) ?_
  refine q_last S58 (st_app (X := X) S66 32 h16 75 75 71 3 0 [(.top, .str ByteArray.empty), (.top, .int .i64 0), (.top, .int .i64 0)] (.own 0) e_ref09_Field 0 (some 54) (by kernel_rfl) (by kernel_rfl) (by kernel_rfl) (by kernel_rfl) (by kernel_rfl) (by kernel_rfl) (by kernel_rfl) (by kernel_rfl) (by kernel_rfl) (fun _ => rfl) (by kernel_rfl)) ?_
  refine q_last S59 (st_app (X := X) S60 32 h18 75 75 71 3 0 [(.top, .str ByteArray.empty), (.top, .int .i64 0), (.top, .int .i64 0)] (.own 1) e_ref09_Field 0 (some 61) (by kernel_rfl) (by kernel_rfl) (by kernel_rfl) (by kernel_rfl) (by kernel_rfl) (by kernel_rfl) (by kernel_rfl) (by kernel_rfl) (by kernel_rfl) (fun _ => rfl) (by kernel_rfl)) ?_
  refine q_take S61 (by kernel_rfl) ?_
  refine q_last S52 (by kernel_rfl) ?_
  exact q_end (by kernel_rfl)
  refine q_alt S69 (by kernel_rfl) ?_ ?_
  refine q_alt S63 (by kernel_rfl) ?_ ?_
  refine q_alt S57 (st_app (X := X) S64 32 h16 75 75 71 3 0 [(.top, .str ByteArray.empty), (.top, .int .i64 0), (.top, .int .i64 0)] (.own 0) e_ref09_Field 0 (some 54) (by kernel_rfl) (by kernel_rfl) (by kernel_rfl) (by kernel_rfl) (by kernel_rfl) (by kernel_rfl) (by kernel_rfl) (by kernel_rfl) (by kernel_rfl) (fun _ => rfl) (by kernel_rfl)) ?_ ?_
  refine q_last S58 (by kernel_rfl) ?_
  refine q_last S59 (st_app (X := X) S60 32 h18 75 75 71 3 0 [(.top, .str ByteArray.empty), (.top, .int .i64 0), (.top, .int .i64 0)] (.own 1) e_ref09_Field 0 (some 61) (by kernel_rfl) (by kernel_rfl) (by kernel_rfl) (by kernel_rfl) (by kernel_rfl) (by kernel_rfl) (by kernel_rfl) (by kernel_rfl) (by kernel_rfl) (fun _ => rfl) (by kernel_rfl)) ?_
  refine q_take S61 (by kernel_rfl) ?_
  refine q_last S52 (by kernel_rfl) ?_
  exact q_end (by kernel_rfl)
  refine q_last S65 (by kernel_rfl) ?_
  refine q_last S58 (st_app (X := X) S66 32 h16 75 75 71 3 0 [(.top, .str ByteArray.empty), (.top, .int .i64 0), (.top, .int .i64 0)] (.own 0) e_ref09_Field 0 (some 54) (by kernel_rfl) (by kernel_rfl) (by kernel_rfl) (by kernel_rfl) (by kernel_rfl) (by kernel_rfl) (by kernel_rfl) (by kernel_rfl) (by kernel_rfl) (fun _ => rfl) (by kernel_rfl)) ?_
  refine q_last S59 (st_app (X := X) S60 32 h18 75 75 71 3 0 [(.top, .str ByteArray.empty), (.top, .int .i64 0), (.top, .int .i64 0)] (.own 1) e_ref09_Field 0 (some 61) (by kernel_rfl) (by kernel_rfl) (by kernel_rfl) (by kernel_rfl) (by kernel_rfl) (by kernel_rfl) (by kernel_rfl) (by kernel_rfl) (by kernel_rfl) (fun _ => rfl) (by kernel_rfl)) ?_
  refine q_take S61 (by kernel_rfl) ?_
  refine q_last S52 (by kernel_rfl) ?_
  exact q_end (by kernel_rfl)
  refine q_last S70 (by kernel_rfl) ?_
  refine q_last S65 (by kernel_rfl) ?_
  refine q_last S58 (st_app (X := X) S66 32 h16 75 75 71 3 0 [(.top, .str ByteArray.empty), (.top, .int .i64 0), (.top, .int .i64 0)] (.own 0) e_ref09_Field 0 (some 54) (by kernel_rfl) (by kernel_rfl) (by kernel_rfl) (by kernel_rfl) (by kernel_rfl) (by kernel_rfl) (by kernel_rfl) (by kernel_rfl) (by kernel_rfl) (fun _ => rfl) (by kernel_rfl)) ?_
  refine q_last S59 (st_app (X := X) S60 32 h18 75 75 71 3 0 [(.top, .str ByteArray.empty), (.top, .int .i64 0), (.top, .int .i64 0)] (.own 1) e_ref09_Field 0 (some 61) (by kernel_rfl) (by kernel_rfl) (by kernel_rfl) (by kernel_rfl) (by kernel_rfl) (by kernel_rfl) (by kernel_rfl) (by kernel_rfl) (by kernel_rfl) (fun _ => rfl) (by kernel_rfl)) ?_
  refine q_take S61 (by kernel_rfl) ?_
  refine q_last S52 (by kernel_rfl) ?_
  exact q_end (by kernel_rfl)
  refine q_last ⟨[E1, E2, E3, E4, E5, E18, E22, E23, E24, E25, E29, E30, E36], [B6], H⟩ (by kernel_rfl) ?_
  refine q_alt S68 (by kernel_rfl) ?_ ?_
  refine q_last S65 (by kernel_rfl) ?_
  refine q_last S58 (st_app (X := X) S66 32 h16 75 75 71 3 0 [(.top, .str ByteArray.empty), (.top, .int .i64 0), (.top, .int .i64 0)] (.own 0) e_ref09_Field 0 (some 54) (by kernel_rfl) (by kernel_rfl) (by kernel_rfl) (by kernel_rfl) (by kernel_rfl) (by kernel_rfl) (by kernel_rfl) (by kernel_rfl) (by kernel_rfl) (fun _ => rfl) (by kernel_rfl)) ?_
  refine q_last S59 (st_app (X := X) S60 32 h18 75 75 71 3 0 [(.top, .str ByteArray.empty), (.top, .int .i64 0), (.top, .int .i64 0)] (.own 1) e_ref09_Field 0 (some 61) (by kernel_rfl) (by kernel_rfl) (by kernel_rfl) (by kernel_rfl) (by kernel_rfl) (by kernel_rfl) (by kernel_rfl) (by kernel_rfl) (by kernel_rfl) (fun _ => rfl) (by kernel_rfl)) ?_
  refine q_take S61 (by kernel_rfl) ?_
  refine q_last S52 (by kernel_rfl) ?_
  exact q_end (by kernel_rfl)
  refine q_last S70 (by kernel_rfl) ?_
  refine q_last S65 (by kernel_rfl) ?_
  refine q_last S58 (st_app (X := X) S66 32 h16 75 75 71 3 0 [(.top, .str ByteArray.empty), (.top, .int .i64 0), (.top, .int .i64 0)] (.own 0) e_ref09_Field 0 (some 54) (by kernel_rfl) (by kernel_rfl) (by kernel_rfl) (by kernel_rfl) (by kernel_rfl) (by kernel_rfl) (by kernel_rfl) (by kernel_rfl) (by kernel_rfl) (fun _ => rfl) (by kernel_rfl)) ?_
  refine q_last S59 (st_app (X := X) S60 32 h18 75 75 71 3 0 [(.top, .str ByteArray.empty), (.top, .int .i64 0), (.top, .int .i64 0)] (.own 1) e_ref09_Field 0 (some 61) (by kernel_rfl) (by kernel_rfl) (by kernel_rfl) (by kernel_rfl) (by kernel_rfl) (by kernel_rfl) (by kernel_rfl) (by kernel_rfl) (by kernel_rfl) (fun _ => rfl) (by kernel_rfl)) ?_
  refine q_take S61 (by kernel_rfl) ?_
  refine q_last S52 (by kernel_rfl) ?_
  exact q_end (by kernel_rfl)
  kernel_rfl
  refine w_seq ?_
  refine w_reg ⟨[E1, E2, E5], [(10, [(.top, .int .i64 r1.Kind_), (.top, .int .i64 r1.Len_), (.top, .int .i64 r1.Base_), (.top, .int .i64 (IntKind.wrap .i64 (r1.Size_ + r12.Size_))), (.top, .bool r1.Open_), ((.own 1), .sl 3 (List.map e_ref09_Field v17))])], H⟩ (by kernel_rfl) ?_
  refine w_seq ?_
  obtain ⟨r19, c20, hF⟩ := bind1_inv hF
  let E38 : Nat × TV := (8, .one (.own 0) (.sl 6 (List.map e_ref09_Type r19)))
  let E43 : Nat × TV := (71, .one (.own 0) (.sl 6 (List.map e_ref09_Type r19)))
  refine w_regO ⟨[E38, (9, .one .top (.int .i64 0))], [], H⟩ ?_ ?_
  refine o_run 3 ⟨[E1, E2, E5, E39, E40, (70, .agg [(.top, .int .i64 r1.Kind_), (.top, .int .i64 r1.Len_), (.top, .int .i64 r1.Base_), (.top, .int .i64 (IntKind.wrap .i64 (r1.Size_ + r12.Size_))), (.top, .bool r1.Open_), ((.own 1), .sl 3 (List.map e_ref09_Field v17))])], [B41], H⟩ (by kernel_rfl) (by kernel_rfl) ?_
  refine o_one ⟨[E1, E2, E5, E39, E40, E42, E43], [B41], H⟩ (st_call (d := (some 71)) (fz := false) (pure := true) (own := true) (⟨[E1, E2, E5, E39, E40, E42], [B41], H⟩ : St) (ok_ref09_put H c20) (by kernel_rfl) (by kernel_rfl)) ?_
  refine o_run 2 ⟨[E1, E2, E38, (9, .one .top (.int .i64 0)), E5, E39, E40, E42, E43], [B41], H⟩ (by kernel_rfl) (by kernel_rfl) ?_
  exact o_end (by kernel_rfl) (by kernel_rfl)
  refine w_ret ?_
  obtain ⟨e0, e1⟩ := some2_inv hF
  subst e0
  subst e1
  exact fin_pure (v := .tup [.one (.own 0) (.sl 6 (List.map e_ref09_Type r19)), .one .top (.int .i64 0)]) (by kernel_rfl) (by kernel_rfl) rfl (by kernel_rfl)
noncomputable def types_Table_Close (H : Heap) (p0 : Ptr) (p1 : Int) : Option (Heap × Int) :=
  bind1 (types_Table_Get H p0 p1) fun r1 =>
  if ((r1.Kind_ != 6) || (!r1.Open_)) = true then (some (H, 111))
  else ((p0).bnd fun i5 o6 =>
  bind1 (get_types_Table H i5 o6) fun x8 =>
  bind1 (gi x8.list_ p1) fun x10 =>
  bind1 (si x8.list_ p1 (T_types_Type.mk x10.Kind_ x10.Len_ x10.Base_ x10.Size_ false x10.Fields_)) fun v12 =>
  bnd (set_types_Table H i5 o6 (T_types_Table.mk v12)) fun H14 =>
  some (H14, 0))
theorem ok_types_Table_Close (H : Heap) {p0 : Ptr} {p1 : Int} {ra : Int} {Hr : Heap} (hF : types_Table_Close H p0 p1 = some (Hr, ra)) : evS X 98 [.one .top (Ptr.av p0), .one .top (.int .i64 p1)] H = some (.one .top (.int .i64 ra), Hr) := by
  let E1 : Ptr → Nat × TV := fun z0 => (0, .one .top (Ptr.av z0))
  let E2 : Nat × TV := (1, .one .top (.int .i64 p1))
  let E3 : Nat × TV := (5, .one .top (.loc 5 0))
  let E5 : Ptr → Nat × TV := fun z0 => (6, .one .top (Ptr.av z0))
  let E6 : Nat × TV := (7, .one .top (.int .i64 p1))
  let E7 : Nat × TV := (9, .one .top (.loc 5 0))
  let E14 : Nat × TV := (21, .one .top (.int .i64 p1))
  let S17 : Ptr → St := fun z0 => ⟨[(E1 z0), E2], [], H⟩
  let S18 : Ptr → St := fun z0 => ⟨[(E1 z0), E2, (E5 z0), E6], [], H⟩
  refine w_fun Try.func98 rfl (by kernel_rfl) false (by kernel_rfl) (s0 := (S17 p0)) (by kernel_rfl) ?_
  unfold types_Table_Close at hF
  refine w_seq ?_
  refine w_reg (S17 p0) (by generalize p0 = qp0; cases qp0 <;> kernel_rfl) ?_
  refine w_seq ?_
  refine w_seq ?_
  obtain ⟨r1, c2, hF⟩ := bind1_inv hF
  let B4 : Nat × List MC := (5, (m1_types_Type r1))
  let E8 : Nat × TV := (10, .one .top (.int .i64 r1.Kind_))
  refine w_regO ⟨[(E1 p0), E2, E3], [B4], H⟩ ?_ ?_
  refine o_run 2 (S18 p0) (by kernel_rfl) (by generalize p0 = qp0; cases qp0 <;> kernel_rfl) ?_
  refine o_one ⟨[(E1 p0), E2, (E5 p0), E6, (8, .agg (m1_types_Type r1))], [], H⟩ (st_call (d := (some 8)) (fz := false) (pure := true) (own := false) (S18 p0) (ok_types_Table_Get H c2) (by generalize p0 = qp0; cases qp0 <;> kernel_rfl) (by generalize p0 = qp0; cases qp0 <;> kernel_rfl)) ?_
  refine o_run 2 ⟨[(E1 p0), E2, E3, (E5 p0), E6, (8, .agg [(.top, .int .i64 r1.Kind_), (.top, .int .i64 r1.Len_), (.top, .int .i64 r1.Base_), (.top, .int .i64 r1.Size_), (.top, .bool r1.Open_), (.top, .junk)])], [B4], H⟩ (by kernel_rfl) (by generalize p0 = qp0; cases qp0 <;> kernel_rfl) ?_
  exact o_end (by kernel_rfl) (by kernel_rfl)
  refine w_seq ?_
  refine w_regO ⟨[(E1 p0), E2, (16, .one .top (.bool ((r1.Kind_ != 6) || (!r1.Open_))))], [], H⟩ ?_ ?_
  refine o_run 4 ⟨[(E1 p0), E2, E3, E7, E8, (11, .one .top (.bool (r1.Kind_ != 6))), (12, .one .top (.bool (r1.Kind_ != 6)))], [B4], H⟩ (by kernel_rfl) (by generalize p0 = qp0; cases qp0 <;> kernel_rfl) ?_
  rcases bool_cases (r1.Kind_ != 6) with h3 | h3
  refine o_eq (congrArg (fun q => (⟨[(E1 p0), E2, E3, E7, E8, (11, .one .top (.bool q)), (12, .one .top (.bool q))], [B4], H⟩ : St)) h3) ?_
  refine o_run 4 ⟨[(E1 p0), E2, E3, E7, E8, (11, .one .top (.bool true)), (12, .one .top (.bool true)), (13, .tup []), (14, .tup []), (15, .tup []), (16, .one .top (.bool true))], [B4], H⟩ (by kernel_rfl) (by generalize p0 = qp0; cases qp0 <;> kernel_rfl) ?_
  refine o_eq2 (congrArg (fun q0 => (⟨[(E1 p0), E2, (16, .one .top (.bool q0))], [], H⟩ : St)) (show true = ((r1.Kind_ != 6) || (!r1.Open_)) by simp [h3])) ?_
  exact o_end (by kernel_rfl) (by kernel_rfl)
  refine o_eq (congrArg (fun q => (⟨[(E1 p0), E2, E3, E7, E8, (11, .one .top (.bool q)), (12, .one .top (.bool q))], [B4], H⟩ : St)) h3) ?_
  refine o_run 4 ⟨[(E1 p0), E2, E3, E7, E8, (11, .one .top (.bool false)), (12, .one .top (.bool false)), (13, .one .top (.loc 5 4)), (14, .one .top (.bool r1.Open_)), (15, .one .top (.bool (!r1.Open_))), (16, .one .top (.bool (!r1.Open_)))], [B4], H⟩ (by kernel_rfl) (by generalize p0 = qp0; cases qp0 <;> kernel_rfl) ?_
  refine o_eq2 (congrArg (fun q0 => (⟨[(E1 p0), E2, (16, .one .top (.bool q0))], [], H⟩ : St)) (show (!r1.Open_) = ((r1.Kind_ != 6) || (!r1.Open_)) by simp [h3])) ?_
  exact o_end (by kernel_rfl) (by kernel_rfl)
  rcases if_inv hF with ⟨h4, hF⟩ | ⟨h4, hF⟩
  refine w_cT (m := .top) h4 (s1 := (⟨[], [], H⟩ : St)) (by kernel_rfl) (by kernel_rfl) ?_
  refine w_seq ?_
  refine w_reg ⟨[(4, .one .top (.int .i64 111))], [], H⟩ (by kernel_rfl) ?_
  refine w_ret ?_
  obtain ⟨e0, e1⟩ := some2_inv hF
  subst e0
  subst e1
  exact fin_imp (v := .one .top (.int .i64 111)) (by kernel_rfl) (by kernel_rfl) (by kernel_rfl)
  refine w_cF (m := .top) h4 (s1 := (S17 p0)) (by kernel_rfl) (by kernel_rfl) ?_
  refine w_skip ?_
  refine w_seq ?_
  obtain ⟨i5, o6, h7, hF⟩ := pbnd_inv hF
  let E9 : Nat × TV := (0, .one .top (.obj i5 o6))
  let E10 : Nat × TV := (17, .one .top (.obj i5 o6))
  let E11 : Nat × TV := (18, .one .top (.obj i5 o6))
  let E12 : Nat × TV := (19, .one .top (.obj i5 o6))
  let E15 : Nat × TV := (22, .one .top (.el (.obj i5 o6) (Int.toNat p1) 0))
  let E16 : Nat × TV := (23, .one .top (.el (.obj i5 o6) (Int.toNat p1) 4))
  let S19 : St := ⟨[E9, E2, E10, E11, E12], [], H⟩
  obtain ⟨x8, V9, hF⟩ := bind1_inv hF
  replace V9 := hgetT_inv V9
  let E13 : Nat × TV := (20, .one .top (.at_ (.obj i5 o6) 0 ((List.map e_types_Type x8.list_).length)))
  let S20 : St := ⟨[E9, E2, E10, E11, E12, E13, E14], [], H⟩
  let S21 : St := ⟨[E9, E2, E10, E11, E12, E13, E14, E15, E16], [], H⟩
  obtain ⟨x10, h11, hF⟩ := bind1_inv hF
  obtain ⟨v12, h13, hF⟩ := bind1_inv hF
  let S22 : St := ⟨[E9, E2, E10, E11, E12, E13, E14, E15, E16], [], (hset H i5 o6 [((.own 2), .sl 6 (List.map e_types_Type v12))])⟩
  obtain ⟨H14, h15, hF⟩ := bnd_inv hF
  have V16 : hget H14 i5 o6 1 = some (o_types_Table (T_types_Table.mk v12)) := by rw [← h15]; exact hset_get V9 rfl
  refine w_regO ⟨[], [], H14⟩ ?_ ?_
  refine o_run 1 ⟨[(E1 p0), E2, (17, .one .top (Ptr.av p0))], [], H⟩ (by kernel_rfl) (by generalize p0 = qp0; cases qp0 <;> kernel_rfl) ?_
  refine o_eq (congrArg (fun q => (⟨[(0, .one .top (Ptr.av q)), E2, (17, .one .top (Ptr.av q))], [], H⟩ : St)) h7) ?_
  refine o_run 1 ⟨[E9, E2, E10, E11], [], H⟩ (by kernel_rfl) (by kernel_rfl) ?_
  refine o_run 1 S19 (by kernel_rfl) (by kernel_rfl) ?_
  refine o_one ⟨[E9, E2, E10, E11, E12, E13], [], H⟩ (st_ldP (X := X) S19 135 V9 0 1 6 (List.map e_types_Type x8.list_) (some 20) (by kernel_rfl) (by kernel_rfl) (by kernel_rfl) (by kernel_rfl) (by kernel_rfl) (by kernel_rfl)) ?_
  refine o_run 1 S20 (by kernel_rfl) (by kernel_rfl) ?_
  refine o_one ⟨[E9, E2, E10, E11, E12, E13, E14, E15], [], H⟩ (st_ixA (X := X) S20 135 55 6 h11 e_types_Type (.obj i5 o6) 0 (List.map e_types_Type x8.list_).length 1 (some 22) (by kernel_rfl) (by kernel_rfl) (by kernel_rfl) (at_obj (k := 0) (c := ((.own 2), .sl 6 (List.map e_types_Type x8.list_))) V9 (by kernel_rfl) (by kernel_rfl)) rfl (List.length_map _) (by kernel_rfl)) ?_
  refine o_run 1 S21 (by kernel_rfl) (by kernel_rfl) ?_
  refine o_one S22 (st_stE (X := X) S21 S22 ⟨false, []⟩ 4 (.obj i5 o6) (Int.toNat p1) 4 1 1 (List.map e_types_Type x8.list_) [.int .i64 x10.Kind_, .int .i64 x10.Len_, .int .i64 x10.Base_, .int .i64 x10.Size_, .bool x10.Open_, .sl 3 (List.map e_types_Field x10.Fields_)] (e_types_Type (T_types_Type.mk x10.Kind_ x10.Len_ x10.Base_ x10.Size_ false x10.Fields_)) (List.map e_types_Type v12) 6 (.one .top (.bool false)) (by kernel_rfl) (by kernel_rfl) (by kernel_rfl) (by kernel_rfl) (by kernel_rfl) (at_obj (k := 0) (c := ((.own 2), .sl 6 (List.map e_types_Type x8.list_))) V9 (by kernel_rfl) (by kernel_rfl)) (el_at h11) (by kernel_rfl) (by kernel_rfl) (el_put h13) (root_obj (k := 0) V9 (by kernel_rfl) (hset_sub0 (k := 0) V9 (Nat.le_of_ble_eq_true rfl))) (by kernel_rfl)) ?_
  refine o_eq (congrArg (fun q => (⟨[E9, E2, E10, E11, E12, E13, E14, E15, E16], [], q⟩ : St)) h15) ?_
  exact o_end (by kernel_rfl) (by kernel_rfl)
  refine w_seq ?_
  refine w_reg ⟨[(4, .one .top (.int .i64 0))], [], H14⟩ (by kernel_rfl) ?_
  refine w_ret ?_
  obtain ⟨e0, e1⟩ := some2_inv hF
  subst e0
  subst e1
  exact fin_imp (v := .one .top (.int .i64 0)) (by kernel_rfl) (by kernel_rfl) (by kernel_rfl)
theorem ok_ref09_put_2 (H : Heap) {p0 : (List T_ref09_Type)} {p1 : Int} {p2 : T_ref09_Type} {ra : (List T_ref09_Type)} (hF : ref09_put p0 p1 p2 = some ra) : evS X 128 [.one (.own 0) (.sl 6 (List.map e_ref09_Type p0)), .one .top (.int .i64 p1), .agg (m0_ref09_Type p2)] H = some (.one (.own 0) (.sl 6 (List.map e_ref09_Type ra)), H) := by
  let E1 : Nat × TV := (0, .one (.own 0) (.sl 6 (List.map e_ref09_Type p0)))
  let E2 : Nat × TV := (1, .one .top (.int .i64 p1))
  let E3 : Nat × TV := (5, .one .top (.loc 5 0))
  let B4 : Nat × List MC := (5, (m0_ref09_Type p2))
  let E6 : Nat × TV := (9, .one (.own 0) (.sl 6 (List.map e_ref09_Type p0)))
  let E7 : Nat × TV := (8, .one .top .junk)
  let E10 : Nat × TV := (12, .one .top (.int .i64 p1))
  let E11 : Nat × TV := (13, .agg (m0_ref09_Type p2))
  let E12 : Nat × TV := (14, .one .top (.el (.tmp 7) (Int.toNat p1) 0))
  refine w_fun Try.func128 rfl (by kernel_rfl) true (by kernel_rfl) (s0 := (⟨[E1, E2, (2, .agg (m0_ref09_Type p2))], [], H⟩ : St)) (by kernel_rfl) ?_
  unfold ref09_put at hF
  refine w_seq ?_
  refine w_reg ⟨[E1, E2, E3], [B4], H⟩ (by kernel_rfl) ?_
  refine w_seq ?_
  obtain ⟨v1, h2, hF⟩ := bind1_inv hF
  let E5 : Nat × TV := (7, .one (.own 1) (.sl 6 (List.map e_ref09_Type v1)))
  let E9 : Nat × TV := (11, .one .top (.at_ (.tmp 7) 0 ((List.map e_ref09_Type v1).length)))
  let S13 : St := ⟨[E2, E3, E5, E9, E10, E11], [B4], H⟩
  let S14 : St := ⟨[E2, E3, E5, E9, E10, E11, E12], [B4], H⟩
  refine w_regO ⟨[E2, E3, E5], [B4], H⟩ ?_ ?_
  refine o_run 2 ⟨[E1, E2, E3, (8, .one (.own 2) (.sl 6 (List.map e_ref09_Type ([] : List T_ref09_Type)))), E6], [B4], H⟩ (by kernel_rfl) (by kernel_rfl) ?_
  refine o_one ⟨[E1, E2, E3, E7, E6, (10, .one (.own 1) (.sl 6 (List.map e_ref09_Type v1)))], [B4], H⟩ (st_app (X := X) (⟨[E1, E2, E3, E7, E6], [B4], H⟩ : St) 64 h2 48 48 77 6 1 [(.top, .int .i64 0), (.top, .int .i64 0), (.top, .int .i64 0), (.top, .int .i64 0), (.top, .bool false), ((.own 1), .sl 3 (List.map e_ref09_Field ([] : List T_ref09_Field)))] (.own 0) e_ref09_Type 0 (some 10) (by kernel_rfl) (by kernel_rfl) (by kernel_rfl) (by kernel_rfl) (by kernel_rfl) (by kernel_rfl) (by kernel_rfl) (by kernel_rfl) (by kernel_rfl) (fun _ => rfl) (by kernel_rfl)) ?_
  refine o_run 1 ⟨[E1, E2, E3, E5, E7, E6, (10, .one .top .junk)], [B4], H⟩ (by kernel_rfl) (by kernel_rfl) ?_
  exact o_end (by kernel_rfl) (by kernel_rfl)
  refine w_seq ?_
  obtain ⟨x3, h4, hF⟩ := bind1_inv hF
  obtain ⟨v5, h6, hF⟩ := bind1_inv hF
  let E8 : Nat × TV := (7, .one (.own 1) (.sl 6 (List.map e_ref09_Type v5)))
  let S15 : St := ⟨[E2, E3, E8, E9, E10, E11, E12], [B4], H⟩
  refine w_regO ⟨[E8], [], H⟩ ?_ ?_
  refine o_run 3 S13 (by kernel_rfl) (by kernel_rfl) ?_
  refine o_one S14 (st_ixA (X := X) S13 48 77 6 h4 e_ref09_Type (.tmp 7) 0 (List.map e_ref09_Type v1).length 0 (some 14) (by kernel_rfl) (by kernel_rfl) (by kernel_rfl) (by kernel_rfl) rfl (List.length_map _) (by kernel_rfl)) ?_
  refine o_one S15 (st_stE (X := X) S14 S15 ⟨true, []⟩ 77 (.tmp 7) (Int.toNat p1) 0 6 0 (List.map e_ref09_Type v1) [.int .i64 x3.Kind_, .int .i64 x3.Len_, .int .i64 x3.Base_, .int .i64 x3.Size_, .bool x3.Open_, .sl 3 (List.map e_ref09_Field x3.Fields_)] (e_ref09_Type p2) (List.map e_ref09_Type v5) 6 (.agg (m0_ref09_Type p2)) (by kernel_rfl) (by kernel_rfl) (by kernel_rfl) (by kernel_rfl) (by kernel_rfl) (by kernel_rfl) (el_at h4) (by kernel_rfl) (by kernel_rfl) (el_put h6) (by kernel_rfl) (by kernel_rfl)) ?_
  exact o_end (by kernel_rfl) (by kernel_rfl)
  refine w_seq ?_
  refine w_reg ⟨[(6, .one (.own 1) (.sl 6 (List.map e_ref09_Type v5)))], [], H⟩ (by kernel_rfl) ?_
  refine w_ret ?_
  obtain e0 := some1_inv hF
  subst e0
  exact fin_pure (v := .one (.own 1) (.sl 6 (List.map e_ref09_Type v5))) (by kernel_rfl) (by kernel_rfl) rfl (by kernel_rfl)
noncomputable def ref09_Close  (p0 : (List T_ref09_Type)) (p1 : Int) : Option ((List T_ref09_Type) × Int) :=
  bind1 (ref09_Get p0 p1) fun r1 =>
  if ((r1.Kind_ != 6) || (!r1.Open_)) = true then (some (p0, 111))
  else (bind1 (ref09_put p0 p1 (T_ref09_Type.mk r1.Kind_ r1.Len_ r1.Base_ r1.Size_ false r1.Fields_)) fun r5 =>
  some (r5, 0))
theorem ok_ref09_Close (H : Heap) {p0 : (List T_ref09_Type)} {p1 : Int} {ra : (List T_ref09_Type)} {rb : Int} (hF : ref09_Close p0 p1 = some (ra, rb)) : evS X 99 [.one (.own 0) (.sl 6 (List.map e_ref09_Type p0)), .one .top (.int .i64 p1)] H = some (.tup [.one (.own 0) (.sl 6 (List.map e_ref09_Type ra)), .one .top (.int .i64 rb)], H) := by
  let E1 : Nat × TV := (0, .one (.own 0) (.sl 6 (List.map e_ref09_Type p0)))
  let E2 : Nat × TV := (1, .one .top (.int .i64 p1))
  let E3 : Nat × TV := (6, .one .top (.loc 6 0))
  let E5 : Nat × TV := (7, .one (.own 0) (.sl 6 (List.map e_ref09_Type p0)))
  let E6 : Nat × TV := (8, .one .top (.int .i64 p1))
  let E7 : Nat × TV := (10, .one .top (.loc 6 0))
  let E11 : Nat × TV := (20, .one (.own 0) (.sl 6 (List.map e_ref09_Type p0)))
  let E12 : Nat × TV := (21, .one .top (.int .i64 p1))
  let S16 : St := ⟨[E1, E2, E5, E6], [], H⟩
  refine w_fun Try.func99 rfl (by kernel_rfl) true (by kernel_rfl) (s0 := (⟨[E1, E2], [], H⟩ : St)) (by kernel_rfl) ?_
  unfold ref09_Close at hF
  refine w_seq ?_
  refine w_reg ⟨[E1, E2], [], H⟩ (by kernel_rfl) ?_
  refine w_seq ?_
  obtain ⟨r1, c2, hF⟩ := bind1_inv hF
  let B4 : Nat × List MC := (6, (m0_ref09_Type r1))
  let E8 : Nat × TV := (11, .one .top (.int .i64 r1.Kind_))
  let B9 : Nat × List MC := (6, [(.top, .int .i64 r1.Kind_), (.top, .int .i64 r1.Len_), (.top, .int .i64 r1.Base_), (.top, .int .i64 r1.Size_), (.top, .bool false), ((.own 0), .sl 3 (List.map e_ref09_Field r1.Fields_))])
  let E13 : Nat × TV := (22, .agg [(.top, .int .i64 r1.Kind_), (.top, .int .i64 r1.Len_), (.top, .int .i64 r1.Base_), (.top, .int .i64 r1.Size_), (.top, .bool false), ((.own 0), .sl 3 (List.map e_ref09_Field r1.Fields_))])
  let S15 : St := ⟨[E1, E2, E3], [B4], H⟩
  let S17 : St := ⟨[E1, E2, E3, E11, E12, E13], [B9], H⟩
  refine w_regO S15 ?_ ?_
  refine o_run 2 S16 (by kernel_rfl) (by kernel_rfl) ?_
  refine o_one ⟨[E1, E2, E5, E6, (9, .agg (m0_ref09_Type r1))], [], H⟩ (st_call (d := (some 9)) (fz := false) (pure := true) (own := false) S16 (ok_ref09_Get H c2) (by kernel_rfl) (by kernel_rfl)) ?_
  refine o_run 2 ⟨[E1, E2, E3, E5, E6, (9, .agg (m0_ref09_Type r1))], [B4], H⟩ (by kernel_rfl) (by kernel_rfl) ?_
  exact o_end (by kernel_rfl) (by kernel_rfl)
  refine w_seq ?_
  refine w_seq ?_
  refine w_regO ⟨[E1, E2, E3, (17, .one .top (.bool ((r1.Kind_ != 6) || (!r1.Open_))))], [B4], H⟩ ?_ ?_
  refine o_run 4 ⟨[E1, E2, E3, E7, E8, (12, .one .top (.bool (r1.Kind_ != 6))), (13, .one .top (.bool (r1.Kind_ != 6)))], [B4], H⟩ (by kernel_rfl) (by kernel_rfl) ?_
  rcases bool_cases (r1.Kind_ != 6) with h3 | h3
  refine o_eq (congrArg (fun q => (⟨[E1, E2, E3, E7, E8, (12, .one .top (.bool q)), (13, .one .top (.bool q))], [B4], H⟩ : St)) h3) ?_
  refine o_run 4 ⟨[E1, E2, E3, E7, E8, (12, .one .top (.bool true)), (13, .one .top (.bool true)), (14, .tup []), (15, .tup []), (16, .tup []), (17, .one .top (.bool true))], [B4], H⟩ (by kernel_rfl) (by kernel_rfl) ?_
  refine o_eq2 (congrArg (fun q0 => (⟨[E1, E2, E3, (17, .one .top (.bool q0))], [B4], H⟩ : St)) (show true = ((r1.Kind_ != 6) || (!r1.Open_)) by simp [h3])) ?_
  exact o_end (by kernel_rfl) (by kernel_rfl)
  refine o_eq (congrArg (fun q => (⟨[E1, E2, E3, E7, E8, (12, .one .top (.bool q)), (13, .one .top (.bool q))], [B4], H⟩ : St)) h3) ?_
  refine o_run 4 ⟨[E1, E2, E3, E7, E8, (12, .one .top (.bool false)), (13, .one .top (.bool false)), (14, .one .top (.loc 6 4)), (15, .one .top (.bool r1.Open_)), (16, .one .top (.bool (!r1.Open_))), (17, .one .top (.bool (!r1.Open_)))], [B4], H⟩ (by kernel_rfl) (by kernel_rfl) ?_
  refine o_eq2 (congrArg (fun q0 => (⟨[E1, E2, E3, (17, .one .top (.bool q0))], [B4], H⟩ : St)) (show (!r1.Open_) = ((r1.Kind_ != 6) || (!r1.Open_)) by simp [h3])) ?_
  exact o_end (by kernel_rfl) (by kernel_rfl)
  rcases if_inv hF with ⟨h4, hF⟩ | ⟨h4, hF⟩
  refine w_cT (m := .top) h4 (s1 := (⟨[E1], [], H⟩ : St)) (by kernel_rfl) (by kernel_rfl) ?_
  refine w_seq ?_
  refine w_reg ⟨[(4, .one (.own 0) (.sl 6 (List.map e_ref09_Type p0))), (5, .one .top (.int .i64 111))], [], H⟩ (by kernel_rfl) ?_
  refine w_ret ?_
  obtain ⟨e0, e1⟩ := some2_inv hF
  subst e0
  subst e1
  exact fin_pure (v := .tup [.one (.own 0) (.sl 6 (List.map e_ref09_Type p0)), .one .top (.int .i64 111)]) (by kernel_rfl) (by kernel_rfl) rfl (by kernel_rfl)
  refine w_cF (m := .top) h4 (s1 := S15) (by kernel_rfl) (by kernel_rfl) ?_
  refine w_skip ?_
  refine w_seq ?_
  refine w_reg ⟨[E1, E2, E3], [B9], H⟩ (by kernel_rfl) ?_
  refine w_seq ?_
  obtain ⟨r5, c6, hF⟩ := bind1_inv hF
  let E10 : Nat × TV := (4, .one (.own 0) (.sl 6 (List.map e_ref09_Type r5)))
  let E14 : Nat × TV := (23, .one (.own 0) (.sl 6 (List.map e_ref09_Type r5)))
  refine w_regO ⟨[E10, (5, .one .top (.int .i64 0))], [], H⟩ ?_ ?_
  refine o_run 3 S17 (by kernel_rfl) (by kernel_rfl) ?_
  refine o_one ⟨[E1, E2, E3, E11, E12, E13, E14], [B9], H⟩ (st_call (d := (some 23)) (fz := false) (pure := true) (own := false) S17 (ok_ref09_put_2 H c6) (by kernel_rfl) (by kernel_rfl)) ?_
  refine o_run 2 ⟨[E1, E2, E10, (5, .one .top (.int .i64 0)), E3, E11, E12, E13, E14], [B9], H⟩ (by kernel_rfl) (by kernel_rfl) ?_
  exact o_end (by kernel_rfl) (by kernel_rfl)
  refine w_ret ?_
  obtain ⟨e0, e1⟩ := some2_inv hF
  subst e0
  subst e1
  exact fin_pure (v := .tup [.one (.own 0) (.sl 6 (List.map e_ref09_Type r5)), .one .top (.int .i64 0)]) (by kernel_rfl) (by kernel_rfl) rfl (by kernel_rfl)
noncomputable def types_Table_kind (H : Heap) (p0 : Ptr) (p1 : Int) : Option (Int) :=
  bind1 (types_Table_Get H p0 p1) fun r1 =>
  some r1.Kind_
theorem ok_types_Table_kind (H : Heap) {p0 : Ptr} {p1 : Int} {ra : Int} (hF : types_Table_kind H p0 p1 = some ra) : evS X 72 [.one .top (Ptr.av p0), .one .top (.int .i64 p1)] H = some (.one .top (.int .i64 ra), H) := by
  let E1 : Ptr → Nat × TV := fun z0 => (0, .one .top (Ptr.av z0))
  let E2 : Nat × TV := (1, .one .top (.int .i64 p1))
  let E4 : Ptr → Nat × TV := fun z0 => (5, .one .top (Ptr.av z0))
  let E5 : Nat × TV := (6, .one .top (.int .i64 p1))
  let S6 : Ptr → St := fun z0 => ⟨[(E1 z0), E2], [], H⟩
  let S7 : Ptr → St := fun z0 => ⟨[(E1 z0), E2, (E4 z0), E5], [], H⟩
  refine w_fun Try.func72 rfl (by kernel_rfl) true (by kernel_rfl) (s0 := (S6 p0)) (by kernel_rfl) ?_
  unfold types_Table_kind at hF
  refine w_seq ?_
  refine w_reg (S6 p0) (by generalize p0 = qp0; cases qp0 <;> kernel_rfl) ?_
  refine w_seq ?_
  obtain ⟨r1, c2, hF⟩ := bind1_inv hF
  let E3 : Nat × TV := (4, .one .top (.int .i64 r1.Kind_))
  refine w_regO ⟨[E3], [], H⟩ ?_ ?_
  refine o_run 2 (S7 p0) (by kernel_rfl) (by generalize p0 = qp0; cases qp0 <;> kernel_rfl) ?_
  refine o_one ⟨[(E1 p0), E2, (E4 p0), E5, (7, .agg (m1_types_Type r1))], [], H⟩ (st_call (d := (some 7)) (fz := false) (pure := true) (own := false) (S7 p0) (ok_types_Table_Get H c2) (by generalize p0 = qp0; cases qp0 <;> kernel_rfl) (by generalize p0 = qp0; cases qp0 <;> kernel_rfl)) ?_
  refine o_run 2 ⟨[(E1 p0), E2, E3, (E4 p0), E5, (7, .agg (m1_types_Type r1)), (8, .one .top (.int .i64 r1.Kind_))], [], H⟩ (by kernel_rfl) (by generalize p0 = qp0; cases qp0 <;> kernel_rfl) ?_
  exact o_end (by kernel_rfl) (by kernel_rfl)
  refine w_ret ?_
  obtain e0 := some1_inv hF
  subst e0
  exact fin_pure (v := .one .top (.int .i64 r1.Kind_)) (by kernel_rfl) (by kernel_rfl) rfl (by kernel_rfl)
noncomputable def types_Table_Pointer_L1 (x7 : T_types_Table) (p1 : Int) (a9 : Int) : Option ((Int) ⊕ (Unit ⊕ (Int))) :=
  if (decide (a9 < (x7.list_.length : Int))) = true then (bind1 (gi x7.list_ a9) fun x11 =>
  if ((x11.Kind_ == 7) && (x11.Base_ == p1)) = true then (some (Sum.inr (Sum.inr a9)))
  else (some (Sum.inl (IntKind.wrap .i64 (a9 + 1)))))
  else (some (Sum.inr (Sum.inl ())))
noncomputable def types_Table_Pointer (H : Heap) (p0 : Ptr) (p1 : Int) : Option (Heap × Int × Int) :=
  bind1 (types_Table_kind H p0 p1) fun r1 =>
  if (r1 != 6) = true then (some (H, 0, 91))
  else ((p0).bnd fun i4 o5 =>
  bind1 (get_types_Table H i4 o5) fun x7 =>
  bind1 (loopO (fun (x : (Int)) => types_Table_Pointer_L1 x7 p1 x) 0) (sum2 (fun (_ : Unit) =>
  bind3 (types_Table_add H (Ptr.at i4 o5) (T_types_Type.mk 7 0 p1 4 false ([] : List T_types_Field))) fun H20 r17 r18 =>
  some (H20, r17, r18)) (fun b21 =>
  some (H, b21, 0))))
theorem ok_types_Table_Pointer (H : Heap) {p0 : Ptr} {p1 : Int} {ra : Int} {rb : Int} {Hr : Heap} (hF : types_Table_Pointer H p0 p1 = some (Hr, ra, rb)) : evS X 100 [.one .top (Ptr.av p0), .one .top (.int .i64 p1)] H = some (.tup [.one .top (.int .i64 ra), .one .top (.int .i64 rb)], Hr) := by
  let E1 : Ptr → Nat × TV := fun z0 => (0, .one .top (Ptr.av z0))
  let E2 : Nat × TV := (1, .one .top (.int .i64 p1))
  let E4 : Ptr → Nat × TV := fun z0 => (8, .one .top (Ptr.av z0))
  let E5 : Nat × TV := (9, .one .top (.int .i64 p1))
  let E12 : Nat × TV := (5, .one .top (.int .i64 0))
  let E15 : Nat × TV := (7, .one .top (.loc 7 0))
  let E19 : Nat × TV := (22, .one .top (.loc 7 0))
  let E22 : Nat × TV := (34, .one .top (.int .i64 p1))
  let E23 : Nat × TV := (35, .agg [(.top, .int .i64 7), (.top, .int .i64 0), (.top, .int .i64 p1), (.top, .int .i64 4), (.top, .bool false), (.top, .junk)])
  let S25 : Ptr → St := fun z0 => ⟨[(E1 z0), E2], [], H⟩
  let S26 : Ptr → St := fun z0 => ⟨[(E1 z0), E2, (E4 z0), E5], [], H⟩
  refine w_fun Try.func100 rfl (by kernel_rfl) false (by kernel_rfl) (s0 := (S25 p0)) (by kernel_rfl) ?_
  unfold types_Table_Pointer at hF
  refine w_seq ?_
  refine w_reg (S25 p0) (by generalize p0 = qp0; cases qp0 <;> kernel_rfl) ?_
  refine w_seq ?_
  refine w_seq ?_
  obtain ⟨r1, c2, hF⟩ := bind1_inv hF
  let E3 : Nat × TV := (11, .one .top (.bool (r1 != 6)))
  refine w_regO ⟨[(E1 p0), E2, E3], [], H⟩ ?_ ?_
  refine o_run 2 (S26 p0) (by kernel_rfl) (by generalize p0 = qp0; cases qp0 <;> kernel_rfl) ?_
  refine o_one ⟨[(E1 p0), E2, (E4 p0), E5, (10, .one .top (.int .i64 r1))], [], H⟩ (st_call (d := (some 10)) (fz := false) (pure := true) (own := false) (S26 p0) (ok_types_Table_kind H c2) (by generalize p0 = qp0; cases qp0 <;> kernel_rfl) (by generalize p0 = qp0; cases qp0 <;> kernel_rfl)) ?_
  refine o_run 1 ⟨[(E1 p0), E2, (E4 p0), E5, (10, .one .top (.int .i64 r1)), E3], [], H⟩ (by kernel_rfl) (by generalize p0 = qp0; cases qp0 <;> kernel_rfl) ?_
  exact o_end (by kernel_rfl) (by kernel_rfl)
  rcases if_inv hF with ⟨h3, hF⟩ | ⟨h3, hF⟩
  refine w_cT (m := .top) h3 (s1 := (⟨[], [], H⟩ : St)) (by kernel_rfl) (by kernel_rfl) ?_
  refine w_seq ?_
  refine w_reg ⟨[(4, .one .top (.int .i64 0)), (5, .one .top (.int .i64 91))], [], H⟩ (by kernel_rfl) ?_
  refine w_ret ?_
  obtain ⟨e0, e1, e2⟩ := some3_inv hF
  subst e0
  subst e1
  subst e2
  exact fin_imp (v := .tup [.one .top (.int .i64 0), .one .top (.int .i64 91)]) (by kernel_rfl) (by kernel_rfl) (by kernel_rfl)
  refine w_cF (m := .top) h3 (s1 := (S25 p0)) (by kernel_rfl) (by kernel_rfl) ?_
  refine w_skip ?_
  refine w_seq ?_
  refine w_seq ?_
  obtain ⟨i4, o5, h6, hF⟩ := pbnd_inv hF
  let E6 : Nat × TV := (0, .one .top (.obj i4 o5))
  let E9 : Nat × TV := (12, .one .top (.obj i4 o5))
  let E10 : Nat × TV := (13, .one .top (.obj i4 o5))
  let E11 : Nat × TV := (14, .one .top (.obj i4 o5))
  let E21 : Nat × TV := (33, .one .top (.obj i4 o5))
  let S27 : St := ⟨[E6, E2, E9, E10, E11], [], H⟩
  let S29 : St := ⟨[E6, E2], [], H⟩
  obtain ⟨x7, V8, hF⟩ := bind1_inv hF
  replace V8 := hgetT_inv V8
  let E7 : Nat × TV := (15, .one .bh (.sl 6 (List.map e_types_Type x7.list_)))
  let E8 : Nat × TV := (16, .one .top (.int .i64 (x7.list_.length : Int)))
  let S28 : St := ⟨[E6, E2, E9, E10, E11, E7], [], H⟩
  refine w_regO ⟨[E6, E2, E7, E8, (17, .one .top (.int .i64 0))], [], H⟩ ?_ ?_
  refine o_run 1 ⟨[(E1 p0), E2, (12, .one .top (Ptr.av p0))], [], H⟩ (by kernel_rfl) (by generalize p0 = qp0; cases qp0 <;> kernel_rfl) ?_
  refine o_eq (congrArg (fun q => (⟨[(0, .one .top (Ptr.av q)), E2, (12, .one .top (Ptr.av q))], [], H⟩ : St)) h6) ?_
  refine o_run 1 ⟨[E6, E2, E9, E10], [], H⟩ (by kernel_rfl) (by kernel_rfl) ?_
  refine o_run 1 S27 (by kernel_rfl) (by kernel_rfl) ?_
  refine o_one S28 (st_ld (X := X) S27 135 V8 0 1 false (.one .bh (.sl 6 (List.map e_types_Type x7.list_))) (some 15) (by kernel_rfl) (by kernel_rfl) (by kernel_rfl) (by kernel_rfl) (by kernel_rfl) (by kernel_rfl)) ?_
  refine o_one ⟨[E6, E2, E9, E10, E11, E7, E8], [], H⟩ (st_len S28 x7.list_ e_types_Type (some 16) (by kernel_rfl) (by kernel_rfl)) ?_
  refine o_run 1 ⟨[E6, E2, E9, E10, E11, E7, E8, (17, .one .top (.int .i64 0))], [], H⟩ (by kernel_rfl) (by kernel_rfl) ?_
  exact o_end (by kernel_rfl) (by kernel_rfl)
  refine w_block ?_
  obtain ⟨r15, hL16, hF⟩ := bind1_inv hF
  refine w_loop (fun (x : (Int)) => (⟨[E6, E2, E7, E8, (17, .one .top (.int .i64 x))], [], H⟩ : St)) (Sum.elim (fun (y : Unit) => ((.exit 0, S29) : Ex × St)) (fun (y : (Int)) => ((.ret, (⟨[(4, .one .top (.int .i64 y)), E12], [], H⟩ : St)) : Ex × St))) hL16 (by kernel_rfl) ?_ ?_
  rintro a9 o hF
  replace hF : types_Table_Pointer_L1 x7 p1 a9 = some o := hF
  let E13 : Nat × TV := (17, .one .top (.int .i64 a9))
  let E14 : Nat × TV := (6, .one .top (.int .i64 a9))
  let E17 : Nat × TV := (19, .one .top (.int .i64 a9))
  let S30 : St := ⟨[E6, E2, E7, E8, E13], [], H⟩
  let S31 : St := ⟨[E6, E2, E7, E8, E13, E17], [], H⟩
  unfold types_Table_Pointer_L1 at hF
  refine w_seq ?_
  refine w_reg ⟨[E6, E2, E7, E8, E13, (18, .one .top (.bool (decide (a9 < (x7.list_.length : Int)))))], [], H⟩ (by kernel_rfl) ?_
  refine w_seq ?_
  rcases if_inv hF with ⟨h10, hF⟩ | ⟨h10, hF⟩
  refine w_cT (m := .top) h10 (s1 := S30) (by kernel_rfl) (by kernel_rfl) ?_
  refine w_skip ?_
  refine w_seq ?_
  refine w_block ?_
  refine w_seq ?_
  obtain ⟨x11, h12, hF⟩ := bind1_inv hF
  let B16 : Nat × List MC := (7, (m0_types_Type x11))
  let E18 : Nat × TV := (20, .one .top (.rd .bh .bh [.int .i64 x11.Kind_, .int .i64 x11.Len_, .int .i64 x11.Base_, .int .i64 x11.Size_, .bool x11.Open_, .sl 3 (List.map e_types_Field x11.Fields_)] 0))
  let E20 : Nat × TV := (23, .one .top (.int .i64 x11.Kind_))
  refine w_regO ⟨[E6, E2, E14, E15, E7, E8, E13], [B16], H⟩ ?_ ?_
  refine o_run 1 S31 (by kernel_rfl) (by kernel_rfl) ?_
  refine o_one ⟨[E6, E2, E7, E8, E13, E17, E18], [], H⟩ (st_ix (X := X) S31 135 55 6 h12 e_types_Type .bh (some 20) (by kernel_rfl) (by kernel_rfl) (by kernel_rfl) (by kernel_rfl)) ?_
  refine o_run 4 ⟨[E6, E2, E14, E15, E7, E8, E13, E17, E18, (21, .agg (m0_types_Type x11))], [B16], H⟩ (by kernel_rfl) (by kernel_rfl) ?_
  exact o_end (by kernel_rfl) (by kernel_rfl)
  refine w_seq ?_
  refine w_regO ⟨[E6, E2, E14, E7, E8, E13, (30, .one .top (.bool ((x11.Kind_ == 7) && (x11.Base_ == p1))))], [], H⟩ ?_ ?_
  refine o_run 4 ⟨[E6, E2, E14, E15, E7, E8, E13, E19, E20, (24, .one .top (.bool (x11.Kind_ == 7))), (25, .one .top (.bool (x11.Kind_ == 7)))], [B16], H⟩ (by kernel_rfl) (by kernel_rfl) ?_
  rcases bool_cases (x11.Kind_ == 7) with h13 | h13
  refine o_eq (congrArg (fun q => (⟨[E6, E2, E14, E15, E7, E8, E13, E19, E20, (24, .one .top (.bool q)), (25, .one .top (.bool q))], [B16], H⟩ : St)) h13) ?_
  refine o_run 5 ⟨[E6, E2, E14, E15, E7, E8, E13, E19, E20, (24, .one .top (.bool true)), (25, .one .top (.bool true)), (26, .one .top (.loc 7 2)), (27, .one .top (.int .i64 x11.Base_)), (28, .one .top (.int .i64 p1)), (29, .one .top (.bool (x11.Base_ == p1))), (30, .one .top (.bool (x11.Base_ == p1)))], [B16], H⟩ (by kernel_rfl) (by kernel_rfl) ?_
  refine o_eq2 (congrArg (fun q0 => (⟨[E6, E2, E14, E7, E8, E13, (30, .one .top (.bool q0))], [], H⟩ : St)) (show (x11.Base_ == p1) = ((x11.Kind_ == 7) && (x11.Base_ == p1)) by simp [h13])) ?_
  exact o_end (by kernel_rfl) (by kernel_rfl)
  refine o_eq (congrArg (fun q => (⟨[E6, E2, E14, E15, E7, E8, E13, E19, E20, (24, .one .top (.bool q)), (25, .one .top (.bool q))], [B16], H⟩ : St)) h13) ?_
  refine o_run 5 ⟨[E6, E2, E14, E15, E7, E8, E13, E19, E20, (24, .one .top (.bool false)), (25, .one .top (.bool false)), (26, .tup []), (27, .tup []), (28, .tup []), (29, .tup []), (30, .one .top (.bool false))], [B16], H⟩ (by kernel_rfl) (by kernel_rfl) ?_
  refine o_eq2 (congrArg (fun q0 => (⟨[E6, E2, E14, E7, E8, E13, (30, .one .top (.bool q0))], [], H⟩ : St)) (show false = ((x11.Kind_ == 7) && (x11.Base_ == p1)) by simp [h13])) ?_
  exact o_end (by kernel_rfl) (by kernel_rfl)
  rcases if_inv hF with ⟨h14, hF⟩ | ⟨h14, hF⟩
  refine w_cT (m := .top) h14 (s1 := (⟨[E14], [], H⟩ : St)) (by kernel_rfl) (by kernel_rfl) ?_
  refine w_seq ?_
  refine w_reg ⟨[(4, .one .top (.int .i64 a9)), E12], [], H⟩ (by kernel_rfl) ?_
  refine w_ret ?_
  cases hF
  exact ⟨_, rfl, (by kernel_rfl)⟩
  refine w_cF (m := .top) h14 (s1 := S30) (by kernel_rfl) (by kernel_rfl) ?_
  refine w_skip ?_
  refine w_reg ⟨[E6, E2, E7, E8, (17, .one .top (.int .i64 (IntKind.wrap .i64 (a9 + 1))))], [], H⟩ (by kernel_rfl) ?_
  cases hF
  exact ⟨_, rfl, (by kernel_rfl)⟩
  refine w_cF (m := .top) h10 (s1 := S29) (by kernel_rfl) (by kernel_rfl) ?_
  refine w_exit ?_
  cases hF
  exact ⟨_, rfl, (by kernel_rfl)⟩
  rcases sum2_inv hF with ⟨r15', rfl, hF⟩ | ⟨r15', rfl, hF⟩
  refine w_oe (i := 0) (s := S29) (by kernel_rfl) ?_
  refine e_here ?_
  refine w_seq ?_
  obtain ⟨H20, r17, r18, c19, hF⟩ := bind3_inv hF
  let E24 : Nat × TV := (36, .tup [.one .top (.int .i64 r17), .one .top (.int .i64 r18)])
  refine w_regO ⟨[(4, .one .top (.int .i64 r17)), (5, .one .top (.int .i64 r18))], [], H20⟩ ?_ ?_
  refine o_run 3 ⟨[E6, E2, E21, E22, (35, .agg [(.top, .int .i64 7), (.top, .int .i64 0), (.top, .int .i64 p1), (.top, .int .i64 4), (.top, .bool false), ((.own 1), .sl 3 (List.map e_types_Field ([] : List T_types_Field)))])], [], H⟩ (by kernel_rfl) (by kernel_rfl) ?_
  refine o_one ⟨[E6, E2, E21, E22, E23, E24], [], H20⟩ (st_call (d := (some 36)) (fz := false) (pure := false) (own := true) (⟨[E6, E2, E21, E22, E23], [], H⟩ : St) (ok_types_Table_add H c19) (by kernel_rfl) (by kernel_rfl)) ?_
  refine o_run 4 ⟨[E6, E2, (4, .one .top (.int .i64 r17)), (5, .one .top (.int .i64 r18)), E21, E22, E23, E24, (37, .one .top (.int .i64 r17)), (38, .one .top (.int .i64 r18))], [], H20⟩ (by kernel_rfl) (by kernel_rfl) ?_
  exact o_end (by kernel_rfl) (by kernel_rfl)
  refine w_ret ?_
  obtain ⟨e0, e1, e2⟩ := some3_inv hF
  subst e0
  subst e1
  subst e2
  exact fin_imp (v := .tup [.one .top (.int .i64 r17), .one .top (.int .i64 r18)]) (by kernel_rfl) (by kernel_rfl) (by kernel_rfl)
  obtain ⟨b21, hy⟩ : ∃ y, y = r15' := ⟨_, rfl⟩
  subst hy
  refine w_or (s := (⟨[(4, .one .top (.int .i64 b21)), E12], [], H⟩ : St)) (by kernel_rfl) ?_
  obtain ⟨e0, e1, e2⟩ := some3_inv hF
  subst e0
  subst e1
  subst e2
  exact fin_imp (v := .tup [.one .top (.int .i64 b21), .one .top (.int .i64 0)]) (by kernel_rfl) (by kernel_rfl) (by kernel_rfl)
noncomputable def ref09_Pointer_L1 (p0 : (List T_ref09_Type)) (p1 : Int) (a4 : Int) : Option ((Int) ⊕ (Unit ⊕ (Int))) :=
  if (decide (a4 < (p0.length : Int))) = true then (bind1 (gi p0 a4) fun x6 =>
  bind1 (if (x6.Kind_ == 7) = true then (bind1 (gi p0 a4) fun x9 =>
  some (x9.Base_ == p1)) else (some false)) fun w11 =>
  if w11 = true then (some (Sum.inr (Sum.inr a4)))
  else (some (Sum.inl (IntKind.wrap .i64 (a4 + 1)))))
  else (some (Sum.inr (Sum.inl ())))
noncomputable def ref09_Pointer  (p0 : (List T_ref09_Type)) (p1 : Int) : Option ((List T_ref09_Type) × Int × Int) :=
  bind1 (ref09_Get p0 p1) fun r1 =>
  if (r1.Kind_ != 6) = true then (some (p0, 0, 91))
  else (bind1 (loopO (fun (x : (Int)) => ref09_Pointer_L1 p0 p1 x) 0) (sum2 (fun (_ : Unit) =>
  bind3 (ref09_add p0 (T_ref09_Type.mk 7 0 p1 4 false ([] : List T_ref09_Field))) fun r16 r17 r18 =>
  some (r16, r17, r18)) (fun b20 =>
  some (p0, b20, 0))))
theorem ok_ref09_Pointer (H : Heap) {p0 : (List T_ref09_Type)} {p1 : Int} {ra : (List T_ref09_Type)} {rb : Int} {rc : Int} (hF : ref09_Pointer p0 p1 = some (ra, rb, rc)) : evS X 101 [.one (.own 0) (.sl 6 (List.map e_ref09_Type p0)), .one .top (.int .i64 p1)] H = some (.tup [.one (.own 0) (.sl 6 (List.map e_ref09_Type ra)), .one .top (.int .i64 rb), .one .top (.int .i64 rc)], H) := by
  let E1 : Nat × TV := (0, .one (.own 0) (.sl 6 (List.map e_ref09_Type p0)))
  let E2 : Nat × TV := (1, .one .top (.int .i64 p1))
  let E4 : Nat × TV := (8, .one (.own 0) (.sl 6 (List.map e_ref09_Type p0)))
  let E5 : Nat × TV := (9, .one .top (.int .i64 p1))
  let E6 : Nat × TV := (4, .one (.own 0) (.sl 6 (List.map e_ref09_Type p0)))
  let E7 : Nat × TV := (6, .one .top (.int .i64 0))
  let E11 : Nat × TV := (15, .one (.own 0) (.sl 6 (List.map e_ref09_Type p0)))
  let E12 : Nat × TV := (16, .one .top (.int .i64 (p0.length : Int)))
  let E13 : Nat × TV := (20, .one (.own 0) (.sl 6 (List.map e_ref09_Type p0)))
  let E18 : Nat × TV := (25, .one .top (.bool true))
  let E19 : Nat × TV := (26, .one .top (.bool true))
  let E20 : Nat × TV := (27, .one (.own 0) (.sl 6 (List.map e_ref09_Type p0)))
  let E24 : Nat × TV := (37, .one (.own 0) (.sl 6 (List.map e_ref09_Type p0)))
  let E25 : Nat × TV := (38, .one .top (.int .i64 p1))
  let E26 : Nat × TV := (39, .agg [(.top, .int .i64 7), (.top, .int .i64 0), (.top, .int .i64 p1), (.top, .int .i64 4), (.top, .bool false), (.top, .junk)])
  let S28 : St := ⟨[E1, E2], [], H⟩
  let S29 : St := ⟨[E1, E2, E4, E5], [], H⟩
  refine w_fun Try.func101 rfl (by kernel_rfl) true (by kernel_rfl) (s0 := S28) (by kernel_rfl) ?_
  unfold ref09_Pointer at hF
  refine w_seq ?_
  refine w_reg S28 (by kernel_rfl) ?_
  refine w_seq ?_
  refine w_seq ?_
  obtain ⟨r1, c2, hF⟩ := bind1_inv hF
  let E3 : Nat × TV := (12, .one .top (.bool (r1.Kind_ != 6)))
  refine w_regO ⟨[E1, E2, E3], [], H⟩ ?_ ?_
  refine o_run 2 S29 (by kernel_rfl) (by kernel_rfl) ?_
  refine o_one ⟨[E1, E2, E4, E5, (10, .agg (m0_ref09_Type r1))], [], H⟩ (st_call (d := (some 10)) (fz := false) (pure := true) (own := false) S29 (ok_ref09_Get H c2) (by kernel_rfl) (by kernel_rfl)) ?_
  refine o_run 2 ⟨[E1, E2, E4, E5, (10, .agg (m0_ref09_Type r1)), (11, .one .top (.int .i64 r1.Kind_)), E3], [], H⟩ (by kernel_rfl) (by kernel_rfl) ?_
  exact o_end (by kernel_rfl) (by kernel_rfl)
  rcases if_inv hF with ⟨h3, hF⟩ | ⟨h3, hF⟩
  refine w_cT (m := .top) h3 (s1 := (⟨[E1], [], H⟩ : St)) (by kernel_rfl) (by kernel_rfl) ?_
  refine w_seq ?_
  refine w_reg ⟨[E6, (5, .one .top (.int .i64 0)), (6, .one .top (.int .i64 91))], [], H⟩ (by kernel_rfl) ?_
  refine w_ret ?_
  obtain ⟨e0, e1, e2⟩ := some3_inv hF
  subst e0
  subst e1
  subst e2
  exact fin_pure (v := .tup [.one (.own 0) (.sl 6 (List.map e_ref09_Type p0)), .one .top (.int .i64 0), .one .top (.int .i64 91)]) (by kernel_rfl) (by kernel_rfl) rfl (by kernel_rfl)
  refine w_cF (m := .top) h3 (s1 := S28) (by kernel_rfl) (by kernel_rfl) ?_
  refine w_skip ?_
  refine w_seq ?_
  refine w_seq ?_
  refine w_reg ⟨[E1, E2, (7, .one .top (.int .i64 0))], [], H⟩ (by kernel_rfl) ?_
  refine w_block ?_
  obtain ⟨r14, hL15, hF⟩ := bind1_inv hF
  refine w_loop (fun (x : (Int)) => (⟨[E1, E2, (7, .one .top (.int .i64 x))], [], H⟩ : St)) (Sum.elim (fun (y : Unit) => ((.exit 0, S28) : Ex × St)) (fun (y : (Int)) => ((.ret, (⟨[E6, (5, .one .top (.int .i64 y)), E7], [], H⟩ : St)) : Ex × St))) hL15 (by kernel_rfl) ?_ ?_
  rintro a4 o hF
  replace hF : ref09_Pointer_L1 p0 p1 a4 = some o := hF
  let E8 : Nat × TV := (7, .one .top (.int .i64 a4))
  let E9 : Nat × TV := (17, .one .top (.bool (decide (a4 < (p0.length : Int)))))
  let E10 : Nat × TV := (14, .one .top (.int .i64 a4))
  let E14 : Nat × TV := (21, .one .top (.int .i64 a4))
  let E21 : Nat × TV := (28, .one .top (.int .i64 a4))
  let S30 : St := ⟨[E1, E2, E8, E10, E11], [], H⟩
  let S31 : St := ⟨[E1, E2, E8, E13, E14], [], H⟩
  unfold ref09_Pointer_L1 at hF
  refine w_seq ?_
  refine w_seq ?_
  refine w_regO ⟨[E1, E2, E8, E9], [], H⟩ ?_ ?_
  refine o_run 2 S30 (by kernel_rfl) (by kernel_rfl) ?_
  refine o_one ⟨[E1, E2, E8, E10, E11, E12], [], H⟩ (st_len S30 p0 e_ref09_Type (some 16) (by kernel_rfl) (by kernel_rfl)) ?_
  refine o_run 1 ⟨[E1, E2, E8, E10, E11, E12, E9], [], H⟩ (by kernel_rfl) (by kernel_rfl) ?_
  exact o_end (by kernel_rfl) (by kernel_rfl)
  rcases if_inv hF with ⟨h5, hF⟩ | ⟨h5, hF⟩
  refine w_cT (m := .top) h5 (s1 := (⟨[E1, E2, E8], [], H⟩ : St)) (by kernel_rfl) (by kernel_rfl) ?_
  refine w_skip ?_
  refine w_seq ?_
  refine w_block ?_
  refine w_seq ?_
  obtain ⟨x6, h7, hF⟩ := bind1_inv hF
  let E15 : Nat × TV := (22, .one .top (.rd (.own 0) (.own 0) [.int .i64 x6.Kind_, .int .i64 x6.Len_, .int .i64 x6.Base_, .int .i64 x6.Size_, .bool x6.Open_, .sl 3 (List.map e_ref09_Field x6.Fields_)] 0))
  let E16 : Nat × TV := (23, .one .top (.rd (.own 0) (.own 0) [.int .i64 x6.Kind_, .int .i64 x6.Len_, .int .i64 x6.Base_, .int .i64 x6.Size_, .bool x6.Open_, .sl 3 (List.map e_ref09_Field x6.Fields_)] 0))
  let E17 : Nat × TV := (24, .one .top (.int .i64 x6.Kind_))
  let S32 : St := ⟨[E1, E2, E8, E13, E14, E15, E16, E17, E18, E19, E20, E21], [], H⟩
  obtain ⟨w11, hB12, hF⟩ := bind1_inv hF
  refine w_regO ⟨[E1, E2, E8, (34, .one .top (.bool w11))], [], H⟩ ?_ ?_
  refine o_run 2 S31 (by kernel_rfl) (by kernel_rfl) ?_
  refine o_one ⟨[E1, E2, E8, E13, E14, E15], [], H⟩ (st_ix (X := X) S31 48 77 6 h7 e_ref09_Type (.own 0) (some 22) (by kernel_rfl) (by kernel_rfl) (by kernel_rfl) (by kernel_rfl)) ?_
  refine o_run 4 ⟨[E1, E2, E8, E13, E14, E15, E16, E17, (25, .one .top (.bool (x6.Kind_ == 7))), (26, .one .top (.bool (x6.Kind_ == 7)))], [], H⟩ (by kernel_rfl) (by kernel_rfl) ?_
  rcases if_inv hB12 with ⟨h8, hB12⟩ | ⟨h8, hB12⟩
  refine o_eq (congrArg (fun q => (⟨[E1, E2, E8, E13, E14, E15, E16, E17, (25, .one .top (.bool q)), (26, .one .top (.bool q))], [], H⟩ : St)) h8) ?_
  refine o_run 2 S32 (by kernel_rfl) (by kernel_rfl) ?_
  obtain ⟨x9, h10, hB12⟩ := bind1_inv hB12
  let E22 : Nat × TV := (29, .one .top (.rd (.own 0) (.own 0) [.int .i64 x9.Kind_, .int .i64 x9.Len_, .int .i64 x9.Base_, .int .i64 x9.Size_, .bool x9.Open_, .sl 3 (List.map e_ref09_Field x9.Fields_)] 0))
  refine o_one ⟨[E1, E2, E8, E13, E14, E15, E16, E17, E18, E19, E20, E21, E22], [], H⟩ (st_ix (X := X) S32 48 77 6 h10 e_ref09_Type (.own 0) (some 29) (by kernel_rfl) (by kernel_rfl) (by kernel_rfl) (by kernel_rfl)) ?_
  refine o_run 5 ⟨[E1, E2, E8, E13, E14, E15, E16, E17, E18, E19, E20, E21, E22, (30, .one .top (.rd (.own 0) (.own 0) [.int .i64 x9.Kind_, .int .i64 x9.Len_, .int .i64 x9.Base_, .int .i64 x9.Size_, .bool x9.Open_, .sl 3 (List.map e_ref09_Field x9.Fields_)] 2)), (31, .one .top (.int .i64 x9.Base_)), (32, .one .top (.int .i64 p1)), (33, .one .top (.bool (x9.Base_ == p1))), (34, .one .top (.bool (x9.Base_ == p1)))], [], H⟩ (by kernel_rfl) (by kernel_rfl) ?_
  cases hB12
  exact o_end (by kernel_rfl) (by kernel_rfl)
  refine o_eq (congrArg (fun q => (⟨[E1, E2, E8, E13, E14, E15, E16, E17, (25, .one .top (.bool q)), (26, .one .top (.bool q))], [], H⟩ : St)) h8) ?_
  refine o_run 8 ⟨[E1, E2, E8, E13, E14, E15, E16, E17, (25, .one .top (.bool false)), (26, .one .top (.bool false)), (27, .tup []), (28, .tup []), (29, .tup []), (30, .tup []), (31, .tup []), (32, .tup []), (33, .tup []), (34, .one .top (.bool false))], [], H⟩ (by kernel_rfl) (by kernel_rfl) ?_
  cases hB12
  exact o_end (by kernel_rfl) (by kernel_rfl)
  rcases if_inv hF with ⟨h13, hF⟩ | ⟨h13, hF⟩
  refine w_cT (m := .top) h13 (s1 := (⟨[E1, E8], [], H⟩ : St)) (by kernel_rfl) (by kernel_rfl) ?_
  refine w_seq ?_
  refine w_reg ⟨[E6, (5, .one .top (.int .i64 a4)), E7], [], H⟩ (by kernel_rfl) ?_
  refine w_ret ?_
  cases hF
  exact ⟨_, rfl, (by kernel_rfl)⟩
  refine w_cF (m := .top) h13 (s1 := (⟨[E1, E2, E8], [], H⟩ : St)) (by kernel_rfl) (by kernel_rfl) ?_
  refine w_skip ?_
  refine w_reg ⟨[E1, E2, (7, .one .top (.int .i64 (IntKind.wrap .i64 (a4 + 1))))], [], H⟩ (by kernel_rfl) ?_
  cases hF
  exact ⟨_, rfl, (by kernel_rfl)⟩
  refine w_cF (m := .top) h5 (s1 := S28) (by kernel_rfl) (by kernel_rfl) ?_
  refine w_exit ?_
  cases hF
  exact ⟨_, rfl, (by kernel_rfl)⟩
  rcases sum2_inv hF with ⟨r14', rfl, hF⟩ | ⟨r14', rfl, hF⟩
  refine w_oe (i := 0) (s := S28) (by kernel_rfl) ?_
  refine e_here ?_
  refine w_seq ?_
  obtain ⟨r16, r17, r18, c19, hF⟩ := bind3_inv hF
  let E23 : Nat × TV := (4, .one (.own 0) (.sl 6 (List.map e_ref09_Type r16)))
  let E27 : Nat × TV := (40, .tup [.one (.own 0) (.sl 6 (List.map e_ref09_Type r16)), .one .top (.int .i64 r17), .one .top (.int .i64 r18)])
  refine w_regO ⟨[E23, (5, .one .top (.int .i64 r17)), (6, .one .top (.int .i64 r18))], [], H⟩ ?_ ?_
  refine o_run 3 ⟨[E1, E2, E24, E25, (39, .agg [(.top, .int .i64 7), (.top, .int .i64 0), (.top, .int .i64 p1), (.top, .int .i64 4), (.top, .bool false), ((.own 1), .sl 3 (List.map e_ref09_Field ([] : List T_ref09_Field)))])], [], H⟩ (by kernel_rfl) (by kernel_rfl) ?_
  refine o_one ⟨[E1, E2, E24, E25, E26, E27], [], H⟩ (st_call (d := (some 40)) (fz := false) (pure := true) (own := true) (⟨[E1, E2, E24, E25, E26], [], H⟩ : St) (ok_ref09_add H c19) (by kernel_rfl) (by kernel_rfl)) ?_
  refine o_run 6 ⟨[E1, E2, E23, (5, .one .top (.int .i64 r17)), (6, .one .top (.int .i64 r18)), E24, E25, E26, E27, (41, .one (.own 0) (.sl 6 (List.map e_ref09_Type r16))), (42, .one .top (.int .i64 r17)), (43, .one .top (.int .i64 r18))], [], H⟩ (by kernel_rfl) (by kernel_rfl) ?_
  exact o_end (by kernel_rfl) (by kernel_rfl)
  refine w_ret ?_
  obtain ⟨e0, e1, e2⟩ := some3_inv hF
  subst e0
  subst e1
  subst e2
  exact fin_pure (v := .tup [.one (.own 0) (.sl 6 (List.map e_ref09_Type r16)), .one .top (.int .i64 r17), .one .top (.int .i64 r18)]) (by kernel_rfl) (by kernel_rfl) rfl (by kernel_rfl)
  obtain ⟨b20, hy⟩ : ∃ y, y = r14' := ⟨_, rfl⟩
  subst hy
  refine w_or (s := (⟨[E6, (5, .one .top (.int .i64 b20)), E7], [], H⟩ : St)) (by kernel_rfl) ?_
  obtain ⟨e0, e1, e2⟩ := some3_inv hF
  subst e0
  subst e1
  subst e2
  exact fin_pure (v := .tup [.one (.own 0) (.sl 6 (List.map e_ref09_Type p0)), .one .top (.int .i64 b20), .one .top (.int .i64 0)]) (by kernel_rfl) (by kernel_rfl) rfl (by kernel_rfl)
noncomputable def law09_do_j1 (j1 : Int) (j2 : Int) (j3 : (List T_ref09_Type)) (j4 : Int) (j5 : Int) (H6 : Heap) : Option (Heap × (List T_ref09_Type) × Bool) :=
  some (H6, j3, ((j1 == j4) && (j2 == j5)))
noncomputable def law09_do_j2 (j17 : Int) (j18 : Int) (j19 : (List T_ref09_Type)) (j20 : Int) (j21 : Int) (H22 : Heap) : Option (Heap × (List T_ref09_Type) × Bool) :=
  law09_do_j1 j17 j18 j19 j20 j21 H22
noncomputable def law09_do_j3 (j32 : Int) (j33 : Int) (j34 : Int) (j35 : (List T_ref09_Type)) (j36 : Int) (H37 : Heap) : Option (Heap × (List T_ref09_Type) × Bool) :=
  law09_do_j2 j32 j34 j35 j33 j36 H37
noncomputable def law09_do_j4 (j45 : Int) (j46 : Int) (j47 : Int) (j48 : (List T_ref09_Type)) (j49 : Int) (H50 : Heap) : Option (Heap × (List T_ref09_Type) × Bool) :=
  law09_do_j3 j45 j46 j47 j48 j49 H50
noncomputable def law09_do (H : Heap) (p0 : Ptr) (p1 : (List T_ref09_Type)) (p2 : T_law09_Op) : Option (Heap × (List T_ref09_Type) × Bool) :=
  if (p2.Kind_ == 0) = true then (bind3 (types_Table_Array H p0 p2.A_ p2.B_) fun H12 r9 r10 =>
  bind3 (ref09_Array p1 p2.A_ p2.B_) fun r13 r14 r15 =>
  law09_do_j1 r9 r10 r13 r14 r15 H12)
  else (if (p2.Kind_ == 1) = true then (bind3 (types_Table_Open H p0) fun H27 r24 r25 =>
  bind3 (ref09_Open p1) fun r28 r29 r30 =>
  law09_do_j2 r24 r25 r28 r29 r30 H27)
  else (if (p2.Kind_ == 2) = true then (bind2 (types_Table_Field H p0 p2.A_ p2.Name_ p2.B_) fun H41 r39 =>
  bind2 (ref09_AddField p1 p2.A_ p2.Name_ p2.B_) fun r42 r43 =>
  law09_do_j3 0 0 r39 r42 r43 H41)
  else (if (p2.Kind_ == 3) = true then (bind2 (types_Table_Close H p0 p2.A_) fun H54 r52 =>
  bind2 (ref09_Close p1 p2.A_) fun r55 r56 =>
  law09_do_j4 0 0 r52 r55 r56 H54)
  else (if (p2.Kind_ == 4) = true then (bind3 (types_Table_Pointer H p0 p2.A_) fun H62 r59 r60 =>
  bind3 (ref09_Pointer p1 p2.A_) fun r63 r64 r65 =>
  law09_do_j4 r59 r64 r60 r63 r65 H62)
  else (some (H, p1, true))))))
theorem ok_law09_do (H : Heap) {p0 : Ptr} {p1 : (List T_ref09_Type)} {p2 : T_law09_Op} {ra : (List T_ref09_Type)} {rb : Bool} {Hr : Heap} (hF : law09_do H p0 p1 p2 = some (Hr, ra, rb)) : evS X 70 [.one .top (Ptr.av p0), .one (.own 0) (.sl 6 (List.map e_ref09_Type p1)), .agg (m0_law09_Op p2)] H = some (.tup [.one (.own 0) (.sl 6 (List.map e_ref09_Type ra)), .one .top (.bool rb)], Hr) := by
  let E1 : Ptr → Nat × TV := fun z0 => (0, .one .top (Ptr.av z0))
  let E2 : Nat × TV := (1, .one (.own 0) (.sl 6 (List.map e_ref09_Type p1)))
  let E3 : Nat × TV := (5, .one .top (.loc 5 0))
  let B4 : Nat × List MC := (5, (m0_law09_Op p2))
  let E5 : Nat × TV := (8, .one .top (.int .i64 0))
  let E6 : Nat × TV := (11, .one .top (.int .i64 0))
  let E7 : Nat × TV := (15, .one .top (.int .i64 p2.Kind_))
  let E19 : Ptr → Nat × TV := fun z0 => (20, .one .top (Ptr.av z0))
  let E20 : Nat × TV := (21, .one .top (.loc 5 1))
  let E21 : Nat × TV := (22, .one .top (.int .i64 p2.A_))
  let E22 : Nat × TV := (23, .one .top (.loc 5 2))
  let E23 : Nat × TV := (24, .one .top (.int .i64 p2.B_))
  let E26 : Nat × TV := (29, .one (.own 0) (.sl 6 (List.map e_ref09_Type p1)))
  let E27 : Nat × TV := (30, .one .top (.loc 5 1))
  let E28 : Nat × TV := (31, .one .top (.int .i64 p2.A_))
  let E29 : Nat × TV := (32, .one .top (.loc 5 2))
  let E30 : Nat × TV := (33, .one .top (.int .i64 p2.B_))
  let E34 : Ptr → Nat × TV := fun z0 => (41, .one .top (Ptr.av z0))
  let E37 : Nat × TV := (46, .one (.own 0) (.sl 6 (List.map e_ref09_Type p1)))
  let E40 : Ptr → Nat × TV := fun z0 => (53, .one .top (Ptr.av z0))
  let E41 : Nat × TV := (54, .one .top (.loc 5 1))
  let E42 : Nat × TV := (55, .one .top (.int .i64 p2.A_))
  let E43 : Nat × TV := (56, .one .top (.loc 5 3))
  let E44 : Nat × TV := (57, .one .top (.str p2.Name_))
  let E45 : Nat × TV := (58, .one .top (.loc 5 2))
  let E46 : Nat × TV := (59, .one .top (.int .i64 p2.B_))
  let E48 : Nat × TV := (62, .one (.own 0) (.sl 6 (List.map e_ref09_Type p1)))
  let E49 : Nat × TV := (63, .one .top (.loc 5 1))
  let E50 : Nat × TV := (64, .one .top (.int .i64 p2.A_))
  let E51 : Nat × TV := (65, .one .top (.loc 5 3))
  let E52 : Nat × TV := (66, .one .top (.str p2.Name_))
  let E53 : Nat × TV := (67, .one .top (.loc 5 2))
  let E54 : Nat × TV := (68, .one .top (.int .i64 p2.B_))
  let E57 : Ptr → Nat × TV := fun z0 => (74, .one .top (Ptr.av z0))
  let E58 : Nat × TV := (75, .one .top (.loc 5 1))
  let E59 : Nat × TV := (76, .one .top (.int .i64 p2.A_))
  let E61 : Nat × TV := (79, .one (.own 0) (.sl 6 (List.map e_ref09_Type p1)))
  let E62 : Nat × TV := (80, .one .top (.loc 5 1))
  let E63 : Nat × TV := (81, .one .top (.int .i64 p2.A_))
  let E67 : Ptr → Nat × TV := fun z0 => (88, .one .top (Ptr.av z0))
  let E68 : Nat × TV := (89, .one .top (.loc 5 1))
  let E69 : Nat × TV := (90, .one .top (.int .i64 p2.A_))
  let E72 : Nat × TV := (95, .one (.own 0) (.sl 6 (List.map e_ref09_Type p1)))
  let E73 : Nat × TV := (96, .one .top (.loc 5 1))
  let E74 : Nat × TV := (97, .one .top (.int .i64 p2.A_))
  let S76 : Ptr → St := fun z0 => ⟨[(E1 z0), E2, E3], [B4], H⟩
  let S77 : Ptr → St := fun z0 => ⟨[(E1 z0), E2, E3, E5, E6], [B4], H⟩
  let S78 : Ptr → St := fun z0 => ⟨[(E1 z0), E2, E3, E5, E6, E7], [B4], H⟩
  let S79 : Ptr → St := fun z0 => ⟨[(E1 z0), E2, E3, (E19 z0), E20, E21, E22, E23], [B4], H⟩
  let S81 : Ptr → St := fun z0 => ⟨[(E1 z0), E2, (E34 z0)], [], H⟩
  let S83 : Ptr → St := fun z0 => ⟨[(E1 z0), E2, E3, E5, E6, (E40 z0), E41, E42, E43, E44, E45, E46], [B4], H⟩
  let S85 : Ptr → St := fun z0 => ⟨[(E1 z0), E2, E3, E5, E6, (E57 z0), E58, E59], [B4], H⟩
  let S87 : Ptr → St := fun z0 => ⟨[(E1 z0), E2, E3, (E67 z0), E68, E69], [B4], H⟩
  refine w_fun Try.func70 rfl (by kernel_rfl) false (by kernel_rfl) (s0 := (⟨[(E1 p0), E2, (2, .agg (m0_law09_Op p2))], [], H⟩ : St)) (by kernel_rfl) ?_
  unfold law09_do at hF
  refine w_seq ?_
  refine w_reg (S76 p0) (by generalize p0 = qp0; cases qp0 <;> kernel_rfl) ?_
  refine w_seq ?_
  refine w_reg ⟨[(E1 p0), E2, E3, E5], [B4], H⟩ (by generalize p0 = qp0; cases qp0 <;> kernel_rfl) ?_
  refine w_seq ?_
  refine w_reg (S77 p0) (by generalize p0 = qp0; cases qp0 <;> kernel_rfl) ?_
  refine w_seq ?_
  refine w_seq ?_
  refine w_reg (S78 p0) (by generalize p0 = qp0; cases qp0 <;> kernel_rfl) ?_
  refine w_block ?_
  refine w_seq ?_
  refine w_reg ⟨[(E1 p0), E2, E3, E5, E6, E7, (17, .one .top (.bool (p2.Kind_ == 0)))], [B4], H⟩ (by generalize p0 = qp0; cases qp0 <;> kernel_rfl) ?_
  refine w_join (α := (Int × Int × (List T_ref09_Type) × Int × Int × Heap)) (fun x => (⟨[(8, .one .top (.int .i64 x.1)), (9, .one .top (.int .i64 x.2.1)), (10, .one (.own 0) (.sl 6 (List.map e_ref09_Type x.2.2.1))), (11, .one .top (.int .i64 x.2.2.2.1)), (12, .one .top (.int .i64 x.2.2.2.2.1))], [], x.2.2.2.2.2⟩ : St)) (fun x => law09_do_j1 x.1 x.2.1 x.2.2.1 x.2.2.2.1 x.2.2.2.2.1 x.2.2.2.2.2 = some (Hr, ra, rb)) ?_ ?_
  rintro ⟨j1, j2, j3, j4, j5, H6⟩ hF
  replace hF : law09_do_j1 j1 j2 j3 j4 j5 H6 = some (Hr, ra, rb) := hF
  let E8 : Nat × TV := (6, .one (.own 0) (.sl 6 (List.map e_ref09_Type j3)))
  let E9 : Nat × TV := (8, .one .top (.int .i64 j1))
  let E10 : Nat × TV := (9, .one .top (.int .i64 j2))
  let E11 : Nat × TV := (10, .one (.own 0) (.sl 6 (List.map e_ref09_Type j3)))
  let E12 : Nat × TV := (11, .one .top (.int .i64 j4))
  let E13 : Nat × TV := (12, .one .top (.int .i64 j5))
  let E14 : Nat × TV := (102, .one (.own 0) (.sl 6 (List.map e_ref09_Type j3)))
  let E15 : Nat × TV := (103, .one .top (.int .i64 j1))
  let E16 : Nat × TV := (104, .one .top (.int .i64 j4))
  unfold law09_do_j1 at hF
  refine w_seq ?_
  refine w_regO ⟨[E8, (7, .one .top (.bool ((j1 == j4) && (j2 == j5))))], [], H6⟩ ?_ ?_
  refine o_run 5 ⟨[E9, E10, E11, E12, E13, E14, E15, E16, (105, .one .top (.bool (j1 == j4))), (106, .one .top (.bool (j1 == j4)))], [], H6⟩ (by kernel_rfl) (by kernel_rfl) ?_
  rcases bool_cases (j1 == j4) with h7 | h7
  refine o_eq (congrArg (fun q => (⟨[E9, E10, E11, E12, E13, E14, E15, E16, (105, .one .top (.bool q)), (106, .one .top (.bool q))], [], H6⟩ : St)) h7) ?_
  refine o_run 6 ⟨[E8, (7, .one .top (.bool (j2 == j5))), E9, E10, E11, E12, E13, E14, E15, E16, (105, .one .top (.bool true)), (106, .one .top (.bool true)), (107, .one .top (.int .i64 j2)), (108, .one .top (.int .i64 j5)), (109, .one .top (.bool (j2 == j5))), (110, .one .top (.bool (j2 == j5)))], [], H6⟩ (by kernel_rfl) (by kernel_rfl) ?_
  refine o_eq2 (congrArg (fun q0 => (⟨[E8, (7, .one .top (.bool q0))], [], H6⟩ : St)) (show (j2 == j5) = ((j1 == j4) && (j2 == j5)) by simp [h7])) ?_
  exact o_end (by kernel_rfl) (by kernel_rfl)
  refine o_eq (congrArg (fun q => (⟨[E9, E10, E11, E12, E13, E14, E15, E16, (105, .one .top (.bool q)), (106, .one .top (.bool q))], [], H6⟩ : St)) h7) ?_
  refine o_run 6 ⟨[E8, (7, .one .top (.bool false)), E9, E10, E11, E12, E13, E14, E15, E16, (105, .one .top (.bool false)), (106, .one .top (.bool false)), (107, .tup []), (108, .tup []), (109, .tup []), (110, .one .top (.bool false))], [], H6⟩ (by kernel_rfl) (by kernel_rfl) ?_
  refine o_eq2 (congrArg (fun q0 => (⟨[E8, (7, .one .top (.bool q0))], [], H6⟩ : St)) (show false = ((j1 == j4) && (j2 == j5)) by simp [h7])) ?_
  exact o_end (by kernel_rfl) (by kernel_rfl)
  refine w_ret ?_
  obtain ⟨e0, e1, e2⟩ := some3_inv hF
  subst e0
  subst e1
  subst e2
  exact fin_imp (v := .tup [.one (.own 0) (.sl 6 (List.map e_ref09_Type j3)), .one .top (.bool ((j1 == j4) && (j2 == j5)))]) (by kernel_rfl) (by kernel_rfl) (by kernel_rfl)
  rcases if_inv hF with ⟨h8, hF⟩ | ⟨h8, hF⟩
  refine w_cT (m := .top) h8 (s1 := (S76 p0)) (by kernel_rfl) (by kernel_rfl) ?_
  refine w_seq ?_
  obtain ⟨H12, r9, r10, c11, hF⟩ := bind3_inv hF
  let E17 : Nat × TV := (8, .one .top (.int .i64 r9))
  let E18 : Nat × TV := (9, .one .top (.int .i64 r10))
  let E24 : Nat × TV := (25, .tup [.one .top (.int .i64 r9), .one .top (.int .i64 r10)])
  let S80 : St := ⟨[E2, E3, E17, E18, E26, E27, E28, E29, E30], [B4], H12⟩
  refine w_regO ⟨[E2, E3, E17, E18], [B4], H12⟩ ?_ ?_
  refine o_run 5 (S79 p0) (by kernel_rfl) (by generalize p0 = qp0; cases qp0 <;> kernel_rfl) ?_
  refine o_one ⟨[(E1 p0), E2, E3, (E19 p0), E20, E21, E22, E23, E24], [B4], H12⟩ (st_call (d := (some 25)) (fz := false) (pure := false) (own := false) (S79 p0) (ok_types_Table_Array H c11) (by generalize p0 = qp0; cases qp0 <;> kernel_rfl) (by generalize p0 = qp0; cases qp0 <;> kernel_rfl)) ?_
  refine o_run 5 ⟨[(E1 p0), E2, E3, E17, E18, (19, .tup [.one .top (.int .i64 r9), .one .top (.int .i64 r10)]), (E19 p0), E20, E21, E22, E23, E24, (26, .one .top (.int .i64 r9)), (27, .one .top (.int .i64 r10))], [B4], H12⟩ (by kernel_rfl) (by generalize p0 = qp0; cases qp0 <;> kernel_rfl) ?_
  exact o_end (by kernel_rfl) (by kernel_rfl)
  obtain ⟨r13, r14, r15, c16, hF⟩ := bind3_inv hF
  let E25 : Nat × TV := (10, .one (.own 0) (.sl 6 (List.map e_ref09_Type r13)))
  let E31 : Nat × TV := (34, .tup [.one (.own 0) (.sl 6 (List.map e_ref09_Type r13)), .one .top (.int .i64 r14), .one .top (.int .i64 r15)])
  refine w_regO ⟨[E17, E18, E25, (11, .one .top (.int .i64 r14)), (12, .one .top (.int .i64 r15))], [], H12⟩ ?_ ?_
  refine o_run 5 S80 (by kernel_rfl) (by kernel_rfl) ?_
  refine o_one ⟨[E2, E3, E17, E18, E26, E27, E28, E29, E30, E31], [B4], H12⟩ (st_call (d := (some 34)) (fz := false) (pure := true) (own := false) S80 (ok_ref09_Array H12 c16) (by kernel_rfl) (by kernel_rfl)) ?_
  refine o_run 7 ⟨[E2, E3, E17, E18, E25, (11, .one .top (.int .i64 r14)), (12, .one .top (.int .i64 r15)), (28, .tup [.one (.own 0) (.sl 6 (List.map e_ref09_Type r13)), .one .top (.int .i64 r14), .one .top (.int .i64 r15)]), E26, E27, E28, E29, E30, E31, (35, .one (.own 0) (.sl 6 (List.map e_ref09_Type r13))), (36, .one .top (.int .i64 r14)), (37, .one .top (.int .i64 r15))], [B4], H12⟩ (by kernel_rfl) (by kernel_rfl) ?_
  exact o_end (by kernel_rfl) (by kernel_rfl)
  exact ⟨(r9, r10, r13, r14, r15, H12), hF, (by kernel_rfl)⟩
  refine w_cF (m := .top) h8 (s1 := (S78 p0)) (by kernel_rfl) (by kernel_rfl) ?_
  refine w_seq ?_
  refine w_reg ⟨[(E1 p0), E2, E3, E5, E6, E7, (38, .one .top (.bool (p2.Kind_ == 1)))], [B4], H⟩ (by generalize p0 = qp0; cases qp0 <;> kernel_rfl) ?_
  refine w_join (α := (Int × Int × (List T_ref09_Type) × Int × Int × Heap)) (fun x => (⟨[(8, .one .top (.int .i64 x.1)), (9, .one .top (.int .i64 x.2.1)), (10, .one (.own 0) (.sl 6 (List.map e_ref09_Type x.2.2.1))), (11, .one .top (.int .i64 x.2.2.2.1)), (12, .one .top (.int .i64 x.2.2.2.2.1))], [], x.2.2.2.2.2⟩ : St)) (fun x => law09_do_j2 x.1 x.2.1 x.2.2.1 x.2.2.2.1 x.2.2.2.2.1 x.2.2.2.2.2 = some (Hr, ra, rb)) ?_ ?_
  rintro ⟨j17, j18, j19, j20, j21, H22⟩ hF
  replace hF : law09_do_j2 j17 j18 j19 j20 j21 H22 = some (Hr, ra, rb) := hF
  unfold law09_do_j2 at hF
  exact ⟨(j17, j18, j19, j20, j21, H22), hF, (by kernel_rfl)⟩
  rcases if_inv hF with ⟨h23, hF⟩ | ⟨h23, hF⟩
  refine w_cT (m := .top) h23 (s1 := (⟨[(E1 p0), E2], [], H⟩ : St)) (by kernel_rfl) (by kernel_rfl) ?_
  refine w_seq ?_
  obtain ⟨H27, r24, r25, c26, hF⟩ := bind3_inv hF
  let E32 : Nat × TV := (8, .one .top (.int .i64 r24))
  let E33 : Nat × TV := (9, .one .top (.int .i64 r25))
  let E35 : Nat × TV := (42, .tup [.one .top (.int .i64 r24), .one .top (.int .i64 r25)])
  let S82 : St := ⟨[E2, E32, E33, E37], [], H27⟩
  refine w_regO ⟨[E2, E32, E33], [], H27⟩ ?_ ?_
  refine o_run 1 (S81 p0) (by kernel_rfl) (by generalize p0 = qp0; cases qp0 <;> kernel_rfl) ?_
  refine o_one ⟨[(E1 p0), E2, (E34 p0), E35], [], H27⟩ (st_call (d := (some 42)) (fz := false) (pure := false) (own := false) (S81 p0) (ok_types_Table_Open H c26) (by generalize p0 = qp0; cases qp0 <;> kernel_rfl) (by generalize p0 = qp0; cases qp0 <;> kernel_rfl)) ?_
  refine o_run 5 ⟨[(E1 p0), E2, E32, E33, (40, .tup [.one .top (.int .i64 r24), .one .top (.int .i64 r25)]), (E34 p0), E35, (43, .one .top (.int .i64 r24)), (44, .one .top (.int .i64 r25))], [], H27⟩ (by kernel_rfl) (by generalize p0 = qp0; cases qp0 <;> kernel_rfl) ?_
  exact o_end (by kernel_rfl) (by kernel_rfl)
  obtain ⟨r28, r29, r30, c31, hF⟩ := bind3_inv hF
  let E36 : Nat × TV := (10, .one (.own 0) (.sl 6 (List.map e_ref09_Type r28)))
  let E38 : Nat × TV := (47, .tup [.one (.own 0) (.sl 6 (List.map e_ref09_Type r28)), .one .top (.int .i64 r29), .one .top (.int .i64 r30)])
  refine w_regO ⟨[E32, E33, E36, (11, .one .top (.int .i64 r29)), (12, .one .top (.int .i64 r30))], [], H27⟩ ?_ ?_
  refine o_run 1 S82 (by kernel_rfl) (by kernel_rfl) ?_
  refine o_one ⟨[E2, E32, E33, E37, E38], [], H27⟩ (st_call (d := (some 47)) (fz := false) (pure := true) (own := false) S82 (ok_ref09_Open H27 c31) (by kernel_rfl) (by kernel_rfl)) ?_
  refine o_run 7 ⟨[E2, E32, E33, E36, (11, .one .top (.int .i64 r29)), (12, .one .top (.int .i64 r30)), (45, .tup [.one (.own 0) (.sl 6 (List.map e_ref09_Type r28)), .one .top (.int .i64 r29), .one .top (.int .i64 r30)]), E37, E38, (48, .one (.own 0) (.sl 6 (List.map e_ref09_Type r28))), (49, .one .top (.int .i64 r29)), (50, .one .top (.int .i64 r30))], [], H27⟩ (by kernel_rfl) (by kernel_rfl) ?_
  exact o_end (by kernel_rfl) (by kernel_rfl)
  exact ⟨(r24, r25, r28, r29, r30, H27), hF, (by kernel_rfl)⟩
  refine w_cF (m := .top) h23 (s1 := (S78 p0)) (by kernel_rfl) (by kernel_rfl) ?_
  refine w_seq ?_
  refine w_reg ⟨[(E1 p0), E2, E3, E5, E6, E7, (51, .one .top (.bool (p2.Kind_ == 2)))], [B4], H⟩ (by generalize p0 = qp0; cases qp0 <;> kernel_rfl) ?_
  refine w_join (α := (Int × Int × Int × (List T_ref09_Type) × Int × Heap)) (fun x => (⟨[(8, .one .top (.int .i64 x.1)), (9, .one .top (.int .i64 x.2.2.1)), (10, .one (.own 0) (.sl 6 (List.map e_ref09_Type x.2.2.2.1))), (11, .one .top (.int .i64 x.2.1)), (12, .one .top (.int .i64 x.2.2.2.2.1))], [], x.2.2.2.2.2⟩ : St)) (fun x => law09_do_j3 x.1 x.2.1 x.2.2.1 x.2.2.2.1 x.2.2.2.2.1 x.2.2.2.2.2 = some (Hr, ra, rb)) ?_ ?_
  rintro ⟨j32, j33, j34, j35, j36, H37⟩ hF
  replace hF : law09_do_j3 j32 j33 j34 j35 j36 H37 = some (Hr, ra, rb) := hF
  unfold law09_do_j3 at hF
  exact ⟨(j32, j34, j35, j33, j36, H37), hF, (by kernel_rfl)⟩
  rcases if_inv hF with ⟨h38, hF⟩ | ⟨h38, hF⟩
  refine w_cT (m := .top) h38 (s1 := (S77 p0)) (by kernel_rfl) (by kernel_rfl) ?_
  refine w_seq ?_
  obtain ⟨H41, r39, c40, hF⟩ := bind2_inv hF
  let E39 : Nat × TV := (9, .one .top (.int .i64 r39))
  let S84 : St := ⟨[E2, E3, E5, E39, E6, E48, E49, E50, E51, E52, E53, E54], [B4], H41⟩
  refine w_regO ⟨[E2, E3, E5, E39, E6], [B4], H41⟩ ?_ ?_
  refine o_run 7 (S83 p0) (by kernel_rfl) (by generalize p0 = qp0; cases qp0 <;> kernel_rfl) ?_
  refine o_one ⟨[(E1 p0), E2, E3, E5, E6, (E40 p0), E41, E42, E43, E44, E45, E46, (60, .one .top (.int .i64 r39))], [B4], H41⟩ (st_call (d := (some 60)) (fz := false) (pure := false) (own := false) (S83 p0) (ok_types_Table_Field H c40) (by generalize p0 = qp0; cases qp0 <;> kernel_rfl) (by generalize p0 = qp0; cases qp0 <;> kernel_rfl)) ?_
  refine o_run 1 ⟨[(E1 p0), E2, E3, E5, E39, E6, (E40 p0), E41, E42, E43, E44, E45, E46, (60, .one .top (.int .i64 r39))], [B4], H41⟩ (by kernel_rfl) (by generalize p0 = qp0; cases qp0 <;> kernel_rfl) ?_
  exact o_end (by kernel_rfl) (by kernel_rfl)
  obtain ⟨r42, r43, c44, hF⟩ := bind2_inv hF
  let E47 : Nat × TV := (10, .one (.own 0) (.sl 6 (List.map e_ref09_Type r42)))
  let E55 : Nat × TV := (69, .tup [.one (.own 0) (.sl 6 (List.map e_ref09_Type r42)), .one .top (.int .i64 r43)])
  refine w_regO ⟨[E5, E39, E47, E6, (12, .one .top (.int .i64 r43))], [], H41⟩ ?_ ?_
  refine o_run 7 S84 (by kernel_rfl) (by kernel_rfl) ?_
  refine o_one ⟨[E2, E3, E5, E39, E6, E48, E49, E50, E51, E52, E53, E54, E55], [B4], H41⟩ (st_call (d := (some 69)) (fz := false) (pure := true) (own := false) S84 (ok_ref09_AddField H41 c44) (by kernel_rfl) (by kernel_rfl)) ?_
  refine o_run 5 ⟨[E2, E3, E5, E39, E47, E6, (12, .one .top (.int .i64 r43)), (61, .tup [.one (.own 0) (.sl 6 (List.map e_ref09_Type r42)), .one .top (.int .i64 r43)]), E48, E49, E50, E51, E52, E53, E54, E55, (70, .one (.own 0) (.sl 6 (List.map e_ref09_Type r42))), (71, .one .top (.int .i64 r43))], [B4], H41⟩ (by kernel_rfl) (by kernel_rfl) ?_
  exact o_end (by kernel_rfl) (by kernel_rfl)
  exact ⟨(0, 0, r39, r42, r43, H41), hF, (by kernel_rfl)⟩
  refine w_cF (m := .top) h38 (s1 := (S78 p0)) (by kernel_rfl) (by kernel_rfl) ?_
  refine w_seq ?_
  refine w_reg ⟨[(E1 p0), E2, E3, E5, E6, E7, (72, .one .top (.bool (p2.Kind_ == 3)))], [B4], H⟩ (by generalize p0 = qp0; cases qp0 <;> kernel_rfl) ?_
  refine w_join (α := (Int × Int × Int × (List T_ref09_Type) × Int × Heap)) (fun x => (⟨[(8, .one .top (.int .i64 x.1)), (9, .one .top (.int .i64 x.2.2.1)), (10, .one (.own 0) (.sl 6 (List.map e_ref09_Type x.2.2.2.1))), (11, .one .top (.int .i64 x.2.1)), (12, .one .top (.int .i64 x.2.2.2.2.1))], [], x.2.2.2.2.2⟩ : St)) (fun x => law09_do_j4 x.1 x.2.1 x.2.2.1 x.2.2.2.1 x.2.2.2.2.1 x.2.2.2.2.2 = some (Hr, ra, rb)) ?_ ?_
  rintro ⟨j45, j46, j47, j48, j49, H50⟩ hF
  replace hF : law09_do_j4 j45 j46 j47 j48 j49 H50 = some (Hr, ra, rb) := hF
  unfold law09_do_j4 at hF
  exact ⟨(j45, j46, j47, j48, j49, H50), hF, (by kernel_rfl)⟩
  rcases if_inv hF with ⟨h51, hF⟩ | ⟨h51, hF⟩
  refine w_cT (m := .top) h51 (s1 := (S77 p0)) (by kernel_rfl) (by kernel_rfl) ?_
  refine w_seq ?_
  obtain ⟨H54, r52, c53, hF⟩ := bind2_inv hF
  let E56 : Nat × TV := (9, .one .top (.int .i64 r52))
  let S86 : St := ⟨[E2, E3, E5, E56, E6, E61, E62, E63], [B4], H54⟩
  refine w_regO ⟨[E2, E3, E5, E56, E6], [B4], H54⟩ ?_ ?_
  refine o_run 3 (S85 p0) (by kernel_rfl) (by generalize p0 = qp0; cases qp0 <;> kernel_rfl) ?_
  refine o_one ⟨[(E1 p0), E2, E3, E5, E6, (E57 p0), E58, E59, (77, .one .top (.int .i64 r52))], [B4], H54⟩ (st_call (d := (some 77)) (fz := false) (pure := false) (own := false) (S85 p0) (ok_types_Table_Close H c53) (by generalize p0 = qp0; cases qp0 <;> kernel_rfl) (by generalize p0 = qp0; cases qp0 <;> kernel_rfl)) ?_
  refine o_run 1 ⟨[(E1 p0), E2, E3, E5, E56, E6, (E57 p0), E58, E59, (77, .one .top (.int .i64 r52))], [B4], H54⟩ (by kernel_rfl) (by generalize p0 = qp0; cases qp0 <;> kernel_rfl) ?_
  exact o_end (by kernel_rfl) (by kernel_rfl)
  obtain ⟨r55, r56, c57, hF⟩ := bind2_inv hF
  let E60 : Nat × TV := (10, .one (.own 0) (.sl 6 (List.map e_ref09_Type r55)))
  let E64 : Nat × TV := (82, .tup [.one (.own 0) (.sl 6 (List.map e_ref09_Type r55)), .one .top (.int .i64 r56)])
  refine w_regO ⟨[E5, E56, E60, E6, (12, .one .top (.int .i64 r56))], [], H54⟩ ?_ ?_
  refine o_run 3 S86 (by kernel_rfl) (by kernel_rfl) ?_
  refine o_one ⟨[E2, E3, E5, E56, E6, E61, E62, E63, E64], [B4], H54⟩ (st_call (d := (some 82)) (fz := false) (pure := true) (own := false) S86 (ok_ref09_Close H54 c57) (by kernel_rfl) (by kernel_rfl)) ?_
  refine o_run 5 ⟨[E2, E3, E5, E56, E60, E6, (12, .one .top (.int .i64 r56)), (78, .tup [.one (.own 0) (.sl 6 (List.map e_ref09_Type r55)), .one .top (.int .i64 r56)]), E61, E62, E63, E64, (83, .one (.own 0) (.sl 6 (List.map e_ref09_Type r55))), (84, .one .top (.int .i64 r56))], [B4], H54⟩ (by kernel_rfl) (by kernel_rfl) ?_
  exact o_end (by kernel_rfl) (by kernel_rfl)
  exact ⟨(0, 0, r52, r55, r56, H54), hF, (by kernel_rfl)⟩
  refine w_cF (m := .top) h51 (s1 := (⟨[(E1 p0), E2, E3, E7], [B4], H⟩ : St)) (by kernel_rfl) (by kernel_rfl) ?_
  refine w_seq ?_
  refine w_reg ⟨[(E1 p0), E2, E3, (85, .one .top (.bool (p2.Kind_ == 4)))], [B4], H⟩ (by generalize p0 = qp0; cases qp0 <;> kernel_rfl) ?_
  rcases if_inv hF with ⟨h58, hF⟩ | ⟨h58, hF⟩
  refine w_cT (m := .top) h58 (s1 := (S76 p0)) (by kernel_rfl) (by kernel_rfl) ?_
  refine w_seq ?_
  obtain ⟨H62, r59, r60, c61, hF⟩ := bind3_inv hF
  let E65 : Nat × TV := (8, .one .top (.int .i64 r59))
  let E66 : Nat × TV := (9, .one .top (.int .i64 r60))
  let E70 : Nat × TV := (91, .tup [.one .top (.int .i64 r59), .one .top (.int .i64 r60)])
  let S88 : St := ⟨[E2, E3, E65, E66, E72, E73, E74], [B4], H62⟩
  refine w_regO ⟨[E2, E3, E65, E66], [B4], H62⟩ ?_ ?_
  refine o_run 3 (S87 p0) (by kernel_rfl) (by generalize p0 = qp0; cases qp0 <;> kernel_rfl) ?_
  refine o_one ⟨[(E1 p0), E2, E3, (E67 p0), E68, E69, E70], [B4], H62⟩ (st_call (d := (some 91)) (fz := false) (pure := false) (own := false) (S87 p0) (ok_types_Table_Pointer H c61) (by generalize p0 = qp0; cases qp0 <;> kernel_rfl) (by generalize p0 = qp0; cases qp0 <;> kernel_rfl)) ?_
  refine o_run 5 ⟨[(E1 p0), E2, E3, E65, E66, (87, .tup [.one .top (.int .i64 r59), .one .top (.int .i64 r60)]), (E67 p0), E68, E69, E70, (92, .one .top (.int .i64 r59)), (93, .one .top (.int .i64 r60))], [B4], H62⟩ (by kernel_rfl) (by generalize p0 = qp0; cases qp0 <;> kernel_rfl) ?_
  exact o_end (by kernel_rfl) (by kernel_rfl)
  obtain ⟨r63, r64, r65, c66, hF⟩ := bind3_inv hF
  let E71 : Nat × TV := (10, .one (.own 0) (.sl 6 (List.map e_ref09_Type r63)))
  let E75 : Nat × TV := (98, .tup [.one (.own 0) (.sl 6 (List.map e_ref09_Type r63)), .one .top (.int .i64 r64), .one .top (.int .i64 r65)])
  refine w_regO ⟨[E65, E66, E71, (11, .one .top (.int .i64 r64)), (12, .one .top (.int .i64 r65))], [], H62⟩ ?_ ?_
  refine o_run 3 S88 (by kernel_rfl) (by kernel_rfl) ?_
  refine o_one ⟨[E2, E3, E65, E66, E72, E73, E74, E75], [B4], H62⟩ (st_call (d := (some 98)) (fz := false) (pure := true) (own := false) S88 (ok_ref09_Pointer H62 c66) (by kernel_rfl) (by kernel_rfl)) ?_
  refine o_run 7 ⟨[E2, E3, E65, E66, E71, (11, .one .top (.int .i64 r64)), (12, .one .top (.int .i64 r65)), (94, .tup [.one (.own 0) (.sl 6 (List.map e_ref09_Type r63)), .one .top (.int .i64 r64), .one .top (.int .i64 r65)]), E72, E73, E74, E75, (99, .one (.own 0) (.sl 6 (List.map e_ref09_Type r63))), (100, .one .top (.int .i64 r64)), (101, .one .top (.int .i64 r65))], [B4], H62⟩ (by kernel_rfl) (by kernel_rfl) ?_
  exact o_end (by kernel_rfl) (by kernel_rfl)
  exact ⟨(r59, r64, r60, r63, r65, H62), hF, (by kernel_rfl)⟩
  refine w_cF (m := .top) h58 (s1 := (⟨[E2], [], H⟩ : St)) (by kernel_rfl) (by kernel_rfl) ?_
  refine w_seq ?_
  refine w_reg ⟨[(6, .one (.own 0) (.sl 6 (List.map e_ref09_Type p1))), (7, .one .top (.bool true))], [], H⟩ (by kernel_rfl) ?_
  refine w_ret ?_
  obtain ⟨e0, e1, e2⟩ := some3_inv hF
  subst e0
  subst e1
  subst e2
  exact fin_imp (v := .tup [.one (.own 0) (.sl 6 (List.map e_ref09_Type p1)), .one .top (.bool true)]) (by kernel_rfl) (by kernel_rfl) (by kernel_rfl)
noncomputable def law09_is_L1 (p1 : T_ref09_Type) (p0 : T_types_Type) (a7 : Int) : Option ((Int) ⊕ (Unit ⊕ Unit)) :=
  if (decide (a7 < (p1.Fields_.length : Int))) = true then (bind1 (gi p0.Fields_ a7) fun x9 =>
  bind1 (gi p1.Fields_ a7) fun x11 =>
  if ((!strEq x9.Name_ x11.Name_) || ((x9.Type_ != x11.Type_) || (x9.Offset_ != x11.Offset_))) = true then (some (Sum.inr (Sum.inr ())))
  else (some (Sum.inl (IntKind.wrap .i64 (a7 + 1)))))
  else (some (Sum.inr (Sum.inl ())))
noncomputable def law09_is  (p0 : T_types_Type) (p1 : T_ref09_Type) : Option (Bool) :=
  if ((p0.Kind_ != p1.Kind_) || ((p0.Len_ != p1.Len_) || ((p0.Base_ != p1.Base_) || ((p0.Size_ != p1.Size_) || ((p0.Open_ != p1.Open_) || ((p0.Fields_.length : Int) != (p1.Fields_.length : Int))))))) = true then (some false)
  else (bind1 (loopO (fun (x : (Int)) => law09_is_L1 p1 p0 x) 0) (sum2 (fun (_ : Unit) =>
  some true) (fun (_ : Unit) =>
  some false)))
theorem ok_law09_is (H : Heap) {p0 : T_types_Type} {p1 : T_ref09_Type} {ra : Bool} (hF : law09_is p0 p1 = some ra) : evS X 33 [.agg (m1_types_Type p0), .agg (m0_ref09_Type p1)] H = some (.one .top (.bool ra), H) := by
  let E1 : Nat × TV := (2, .one .top (.loc 2 0))
  let E2 : Nat × TV := (3, .one .top (.loc 3 0))
  let B3 : Nat × List MC := (2, (m1_types_Type p0))
  let B4 : Nat × List MC := (3, (m0_ref09_Type p1))
  let E5 : Nat × TV := (8, .one .top (.loc 2 0))
  let E6 : Nat × TV := (9, .one .top (.int .i64 p0.Kind_))
  let E7 : Nat × TV := (10, .one .top (.loc 3 0))
  let E8 : Nat × TV := (11, .one .top (.int .i64 p1.Kind_))
  let E9 : Nat × TV := (26, .one .top (.bool true))
  let E10 : Nat × TV := (27, .one .top (.bool true))
  let E11 : Nat × TV := (33, .one .top (.bool true))
  let E12 : Nat × TV := (34, .one .top (.bool true))
  let E13 : Nat × TV := (35, .tup [])
  let E14 : Nat × TV := (36, .tup [])
  let E15 : Nat × TV := (37, .tup [])
  let E16 : Nat × TV := (38, .tup [])
  let E17 : Nat × TV := (39, .tup [])
  let E18 : Nat × TV := (40, .one .top (.bool true))
  let E19 : Nat × TV := (41, .one .top (.bool true))
  let E20 : Nat × TV := (42, .tup [])
  let E21 : Nat × TV := (43, .tup [])
  let E22 : Nat × TV := (44, .tup [])
  let E23 : Nat × TV := (45, .tup [])
  let E24 : Nat × TV := (46, .tup [])
  let E25 : Nat × TV := (47, .tup [])
  let E26 : Nat × TV := (48, .tup [])
  let E27 : Nat × TV := (49, .one .top (.bool true))
  let E28 : Nat × TV := (12, .one .top (.bool false))
  let E29 : Nat × TV := (13, .one .top (.bool false))
  let E30 : Nat × TV := (14, .one .top (.loc 2 1))
  let E31 : Nat × TV := (15, .one .top (.int .i64 p0.Len_))
  let E32 : Nat × TV := (16, .one .top (.loc 3 1))
  let E33 : Nat × TV := (17, .one .top (.int .i64 p1.Len_))
  let E34 : Nat × TV := (18, .one .top (.bool false))
  let E35 : Nat × TV := (19, .one .top (.bool false))
  let E36 : Nat × TV := (20, .one .top (.bool false))
  let E37 : Nat × TV := (21, .one .top (.loc 2 2))
  let E38 : Nat × TV := (22, .one .top (.int .i64 p0.Base_))
  let E39 : Nat × TV := (23, .one .top (.loc 3 2))
  let E40 : Nat × TV := (24, .one .top (.int .i64 p1.Base_))
  let E41 : Nat × TV := (25, .one .top (.bool false))
  let E42 : Nat × TV := (26, .one .top (.bool false))
  let E43 : Nat × TV := (27, .one .top (.bool false))
  let E44 : Nat × TV := (28, .one .top (.loc 2 3))
  let E45 : Nat × TV := (29, .one .top (.int .i64 p0.Size_))
  let E46 : Nat × TV := (30, .one .top (.loc 3 3))
  let E47 : Nat × TV := (31, .one .top (.int .i64 p1.Size_))
  let E48 : Nat × TV := (32, .one .top (.bool false))
  let E49 : Nat × TV := (33, .one .top (.bool false))
  let E50 : Nat × TV := (34, .one .top (.bool false))
  let E51 : Nat × TV := (35, .one .top (.loc 2 4))
  let E52 : Nat × TV := (36, .one .top (.bool p0.Open_))
  let E53 : Nat × TV := (37, .one .top (.loc 3 4))
  let E54 : Nat × TV := (38, .one .top (.bool p1.Open_))
  let E55 : Nat × TV := (39, .one .top (.bool false))
  let E56 : Nat × TV := (40, .one .top (.bool false))
  let E57 : Nat × TV := (41, .one .top (.bool false))
  let E58 : Nat × TV := (42, .one .top (.loc 2 5))
  let E59 : Nat × TV := (43, .one .bl (.sl 3 (List.map e_types_Field p0.Fields_)))
  let E60 : Nat × TV := (44, .one .top (.int .i64 (p0.Fields_.length : Int)))
  let E61 : Nat × TV := (45, .one .top (.loc 3 5))
  let E62 : Nat × TV := (46, .one (.own 0) (.sl 3 (List.map e_ref09_Field p1.Fields_)))
  let E63 : Nat × TV := (47, .one .top (.int .i64 (p1.Fields_.length : Int)))
  let E64 : Nat × TV := (4, .one .top (.bool false))
  let E68 : Nat × TV := (51, .one .top (.loc 3 5))
  let E69 : Nat × TV := (52, .one (.own 0) (.sl 3 (List.map e_ref09_Field p1.Fields_)))
  let E70 : Nat × TV := (53, .one .top (.int .i64 (p1.Fields_.length : Int)))
  let E71 : Nat × TV := (6, .one .top (.loc 6 0))
  let E72 : Nat × TV := (7, .one .top (.loc 7 0))
  let E75 : Nat × TV := (57, .one .top (.loc 2 5))
  let E76 : Nat × TV := (58, .one .bl (.sl 3 (List.map e_types_Field p0.Fields_)))
  let E79 : Nat × TV := (62, .one .top (.loc 3 5))
  let E80 : Nat × TV := (63, .one (.own 0) (.sl 3 (List.map e_ref09_Field p1.Fields_)))
  let B85 : Nat × List MC := (6, [(.top, .str ByteArray.empty), (.top, .int .i64 0), (.top, .int .i64 0)])
  let B86 : Nat × List MC := (7, [(.top, .str ByteArray.empty), (.top, .int .i64 0), (.top, .int .i64 0)])
  let E87 : Nat × TV := (67, .one .top (.loc 6 0))
  let E89 : Nat × TV := (69, .one .top (.loc 7 0))
  let E91 : Nat × TV := (71, .one .top (.bool false))
  let E92 : Nat × TV := (72, .one .top (.bool false))
  let E93 : Nat × TV := (73, .one .top (.loc 6 1))
  let E95 : Nat × TV := (75, .one .top (.loc 7 1))
  let S97 : St := ⟨[E1, E2], [B3, B4], H⟩
  let S98 : St := ⟨[E1, E2, E5, E6, E7, E8, E28, E29, E30, E31, E32, E33, E34, E35, E36, E37, E38, E39, E40, E41, E42, E43, E44, E45, E46, E47, E48, E49, E50, E51, E52, E53, E54, E55, E56, E57, E58, E59], [B3, B4], H⟩
  let S99 : St := ⟨[E1, E2, E5, E6, E7, E8, E28, E29, E30, E31, E32, E33, E34, E35, E36, E37, E38, E39, E40, E41, E42, E43, E44, E45, E46, E47, E48, E49, E50, E51, E52, E53, E54, E55, E56, E57, E58, E59, E60, E61, E62], [B3, B4], H⟩
  let S100 : St := ⟨[], [], H⟩
  let S101 : St := ⟨[E64], [], H⟩
  refine w_fun Try.func33 rfl (by kernel_rfl) true (by kernel_rfl) (s0 := (⟨[(0, .agg (m1_types_Type p0)), (1, .agg (m0_ref09_Type p1))], [], H⟩ : St)) (by kernel_rfl) ?_
  unfold law09_is at hF
  refine w_seq ?_
  refine w_reg S97 (by kernel_rfl) ?_
  refine w_seq ?_
  refine w_seq ?_
  refine w_regO ⟨[E1, E2, (49, .one .top (.bool ((p0.Kind_ != p1.Kind_) || ((p0.Len_ != p1.Len_) || ((p0.Base_ != p1.Base_) || ((p0.Size_ != p1.Size_) || ((p0.Open_ != p1.Open_) || ((p0.Fields_.length : Int) != (p1.Fields_.length : Int)))))))))], [B3, B4], H⟩ ?_ ?_
  refine o_run 6 ⟨[E1, E2, E5, E6, E7, E8, (12, .one .top (.bool (p0.Kind_ != p1.Kind_))), (13, .one .top (.bool (p0.Kind_ != p1.Kind_)))], [B3, B4], H⟩ (by kernel_rfl) (by kernel_rfl) ?_
  rcases bool_cases (p0.Kind_ != p1.Kind_) with h1 | h1
  refine o_eq (congrArg (fun q => (⟨[E1, E2, E5, E6, E7, E8, (12, .one .top (.bool q)), (13, .one .top (.bool q))], [B3, B4], H⟩ : St)) h1) ?_
  refine o_run 36 ⟨[E1, E2, E5, E6, E7, E8, (12, .one .top (.bool true)), (13, .one .top (.bool true)), (14, .tup []), (15, .tup []), (16, .tup []), (17, .tup []), (18, .tup []), (19, .one .top (.bool true)), (20, .one .top (.bool true)), (21, .tup []), (22, .tup []), (23, .tup []), (24, .tup []), (25, .tup []), E9, E10, (28, .tup []), (29, .tup []), (30, .tup []), (31, .tup []), (32, .tup []), E11, E12, E13, E14, E15, E16, E17, E18, E19, E20, E21, E22, E23, E24, E25, E26, E27], [B3, B4], H⟩ (by kernel_rfl) (by kernel_rfl) ?_
  refine o_eq2 (congrArg (fun q0 => (⟨[E1, E2, (49, .one .top (.bool q0))], [B3, B4], H⟩ : St)) (show true = ((p0.Kind_ != p1.Kind_) || ((p0.Len_ != p1.Len_) || ((p0.Base_ != p1.Base_) || ((p0.Size_ != p1.Size_) || ((p0.Open_ != p1.Open_) || ((p0.Fields_.length : Int) != (p1.Fields_.length : Int))))))) by simp [h1])) ?_
  exact o_end (by kernel_rfl) (by kernel_rfl)
  refine o_eq (congrArg (fun q => (⟨[E1, E2, E5, E6, E7, E8, (12, .one .top (.bool q)), (13, .one .top (.bool q))], [B3, B4], H⟩ : St)) h1) ?_
  refine o_run 7 ⟨[E1, E2, E5, E6, E7, E8, E28, E29, E30, E31, E32, E33, (18, .one .top (.bool (p0.Len_ != p1.Len_))), (19, .one .top (.bool (p0.Len_ != p1.Len_))), (20, .one .top (.bool (p0.Len_ != p1.Len_)))], [B3, B4], H⟩ (by kernel_rfl) (by kernel_rfl) ?_
  rcases bool_cases (p0.Len_ != p1.Len_) with h2 | h2
  refine o_eq (congrArg (fun q => (⟨[E1, E2, E5, E6, E7, E8, E28, E29, E30, E31, E32, E33, (18, .one .top (.bool q)), (19, .one .top (.bool q)), (20, .one .top (.bool q))], [B3, B4], H⟩ : St)) h2) ?_
  refine o_run 29 ⟨[E1, E2, E5, E6, E7, E8, E28, E29, E30, E31, E32, E33, (18, .one .top (.bool true)), (19, .one .top (.bool true)), (20, .one .top (.bool true)), (21, .tup []), (22, .tup []), (23, .tup []), (24, .tup []), (25, .tup []), E9, E10, (28, .tup []), (29, .tup []), (30, .tup []), (31, .tup []), (32, .tup []), E11, E12, E13, E14, E15, E16, E17, E18, E19, E20, E21, E22, E23, E24, E25, E26, E27], [B3, B4], H⟩ (by kernel_rfl) (by kernel_rfl) ?_
  refine o_eq2 (congrArg (fun q0 => (⟨[E1, E2, (49, .one .top (.bool q0))], [B3, B4], H⟩ : St)) (show true = ((p0.Kind_ != p1.Kind_) || ((p0.Len_ != p1.Len_) || ((p0.Base_ != p1.Base_) || ((p0.Size_ != p1.Size_) || ((p0.Open_ != p1.Open_) || ((p0.Fields_.length : Int) != (p1.Fields_.length : Int))))))) by simp [h1, h2])) ?_
  exact o_end (by kernel_rfl) (by kernel_rfl)
  refine o_eq (congrArg (fun q => (⟨[E1, E2, E5, E6, E7, E8, E28, E29, E30, E31, E32, E33, (18, .one .top (.bool q)), (19, .one .top (.bool q)), (20, .one .top (.bool q))], [B3, B4], H⟩ : St)) h2) ?_
  refine o_run 7 ⟨[E1, E2, E5, E6, E7, E8, E28, E29, E30, E31, E32, E33, E34, E35, E36, E37, E38, E39, E40, (25, .one .top (.bool (p0.Base_ != p1.Base_))), (26, .one .top (.bool (p0.Base_ != p1.Base_))), (27, .one .top (.bool (p0.Base_ != p1.Base_)))], [B3, B4], H⟩ (by kernel_rfl) (by kernel_rfl) ?_
  rcases bool_cases (p0.Base_ != p1.Base_) with h3 | h3
  refine o_eq (congrArg (fun q => (⟨[E1, E2, E5, E6, E7, E8, E28, E29, E30, E31, E32, E33, E34, E35, E36, E37, E38, E39, E40, (25, .one .top (.bool q)), (26, .one .top (.bool q)), (27, .one .top (.bool q))], [B3, B4], H⟩ : St)) h3) ?_
  refine o_run 22 ⟨[E1, E2, E5, E6, E7, E8, E28, E29, E30, E31, E32, E33, E34, E35, E36, E37, E38, E39, E40, (25, .one .top (.bool true)), E9, E10, (28, .tup []), (29, .tup []), (30, .tup []), (31, .tup []), (32, .tup []), E11, E12, E13, E14, E15, E16, E17, E18, E19, E20, E21, E22, E23, E24, E25, E26, E27], [B3, B4], H⟩ (by kernel_rfl) (by kernel_rfl) ?_
  refine o_eq2 (congrArg (fun q0 => (⟨[E1, E2, (49, .one .top (.bool q0))], [B3, B4], H⟩ : St)) (show true = ((p0.Kind_ != p1.Kind_) || ((p0.Len_ != p1.Len_) || ((p0.Base_ != p1.Base_) || ((p0.Size_ != p1.Size_) || ((p0.Open_ != p1.Open_) || ((p0.Fields_.length : Int) != (p1.Fields_.length : Int))))))) by simp [h1, h2, h3])) ?_
  exact o_end (by kernel_rfl) (by kernel_rfl)
  refine o_eq (congrArg (fun q => (⟨[E1, E2, E5, E6, E7, E8, E28, E29, E30, E31, E32, E33, E34, E35, E36, E37, E38, E39, E40, (25, .one .top (.bool q)), (26, .one .top (.bool q)), (27, .one .top (.bool q))], [B3, B4], H⟩ : St)) h3) ?_
  refine o_run 7 ⟨[E1, E2, E5, E6, E7, E8, E28, E29, E30, E31, E32, E33, E34, E35, E36, E37, E38, E39, E40, E41, E42, E43, E44, E45, E46, E47, (32, .one .top (.bool (p0.Size_ != p1.Size_))), (33, .one .top (.bool (p0.Size_ != p1.Size_))), (34, .one .top (.bool (p0.Size_ != p1.Size_)))], [B3, B4], H⟩ (by kernel_rfl) (by kernel_rfl) ?_
  rcases bool_cases (p0.Size_ != p1.Size_) with h4 | h4
  refine o_eq (congrArg (fun q => (⟨[E1, E2, E5, E6, E7, E8, E28, E29, E30, E31, E32, E33, E34, E35, E36, E37, E38, E39, E40, E41, E42, E43, E44, E45, E46, E47, (32, .one .top (.bool q)), (33, .one .top (.bool q)), (34, .one .top (.bool q))], [B3, B4], H⟩ : St)) h4) ?_
  refine o_run 15 ⟨[E1, E2, E5, E6, E7, E8, E28, E29, E30, E31, E32, E33, E34, E35, E36, E37, E38, E39, E40, E41, E42, E43, E44, E45, E46, E47, (32, .one .top (.bool true)), E11, E12, E13, E14, E15, E16, E17, E18, E19, E20, E21, E22, E23, E24, E25, E26, E27], [B3, B4], H⟩ (by kernel_rfl) (by kernel_rfl) ?_
  refine o_eq2 (congrArg (fun q0 => (⟨[E1, E2, (49, .one .top (.bool q0))], [B3, B4], H⟩ : St)) (show true = ((p0.Kind_ != p1.Kind_) || ((p0.Len_ != p1.Len_) || ((p0.Base_ != p1.Base_) || ((p0.Size_ != p1.Size_) || ((p0.Open_ != p1.Open_) || ((p0.Fields_.length : Int) != (p1.Fields_.length : Int))))))) by simp [h1, h2, h3, h4])) ?_
  exact o_end (by kernel_rfl) (by kernel_rfl)
  refine o_eq (congrArg (fun q => (⟨[E1, E2, E5, E6, E7, E8, E28, E29, E30, E31, E32, E33, E34, E35, E36, E37, E38, E39, E40, E41, E42, E43, E44, E45, E46, E47, (32, .one .top (.bool q)), (33, .one .top (.bool q)), (34, .one .top (.bool q))], [B3, B4], H⟩ : St)) h4) ?_
  refine o_run 7 ⟨[E1, E2, E5, E6, E7, E8, E28, E29, E30, E31, E32, E33, E34, E35, E36, E37, E38, E39, E40, E41, E42, E43, E44, E45, E46, E47, E48, E49, E50, E51, E52, E53, E54, (39, .one .top (.bool (p0.Open_ != p1.Open_))), (40, .one .top (.bool (p0.Open_ != p1.Open_))), (41, .one .top (.bool (p0.Open_ != p1.Open_)))], [B3, B4], H⟩ (by kernel_rfl) (by kernel_rfl) ?_
  rcases bool_cases (p0.Open_ != p1.Open_) with h5 | h5
  refine o_eq (congrArg (fun q => (⟨[E1, E2, E5, E6, E7, E8, E28, E29, E30, E31, E32, E33, E34, E35, E36, E37, E38, E39, E40, E41, E42, E43, E44, E45, E46, E47, E48, E49, E50, E51, E52, E53, E54, (39, .one .top (.bool q)), (40, .one .top (.bool q)), (41, .one .top (.bool q))], [B3, B4], H⟩ : St)) h5) ?_
  refine o_run 8 ⟨[E1, E2, E5, E6, E7, E8, E28, E29, E30, E31, E32, E33, E34, E35, E36, E37, E38, E39, E40, E41, E42, E43, E44, E45, E46, E47, E48, E49, E50, E51, E52, E53, E54, (39, .one .top (.bool true)), E18, E19, E20, E21, E22, E23, E24, E25, E26, E27], [B3, B4], H⟩ (by kernel_rfl) (by kernel_rfl) ?_
  refine o_eq2 (congrArg (fun q0 => (⟨[E1, E2, (49, .one .top (.bool q0))], [B3, B4], H⟩ : St)) (show true = ((p0.Kind_ != p1.Kind_) || ((p0.Len_ != p1.Len_) || ((p0.Base_ != p1.Base_) || ((p0.Size_ != p1.Size_) || ((p0.Open_ != p1.Open_) || ((p0.Fields_.length : Int) != (p1.Fields_.length : Int))))))) by simp [h1, h2, h3, h4, h5])) ?_
  exact o_end (by kernel_rfl) (by kernel_rfl)
  refine o_eq (congrArg (fun q => (⟨[E1, E2, E5, E6, E7, E8, E28, E29, E30, E31, E32, E33, E34, E35, E36, E37, E38, E39, E40, E41, E42, E43, E44, E45, E46, E47, E48, E49, E50, E51, E52, E53, E54, (39, .one .top (.bool q)), (40, .one .top (.bool q)), (41, .one .top (.bool q))], [B3, B4], H⟩ : St)) h5) ?_
  refine o_run 2 S98 (by kernel_rfl) (by kernel_rfl) ?_
  refine o_one ⟨[E1, E2, E5, E6, E7, E8, E28, E29, E30, E31, E32, E33, E34, E35, E36, E37, E38, E39, E40, E41, E42, E43, E44, E45, E46, E47, E48, E49, E50, E51, E52, E53, E54, E55, E56, E57, E58, E59, E60], [B3, B4], H⟩ (st_len S98 p0.Fields_ e_types_Field (some 44) (by kernel_rfl) (by kernel_rfl)) ?_
  refine o_run 2 S99 (by kernel_rfl) (by kernel_rfl) ?_
  refine o_one ⟨[E1, E2, E5, E6, E7, E8, E28, E29, E30, E31, E32, E33, E34, E35, E36, E37, E38, E39, E40, E41, E42, E43, E44, E45, E46, E47, E48, E49, E50, E51, E52, E53, E54, E55, E56, E57, E58, E59, E60, E61, E62, E63], [B3, B4], H⟩ (st_len S99 p1.Fields_ e_ref09_Field (some 47) (by kernel_rfl) (by kernel_rfl)) ?_
  refine o_run 2 ⟨[E1, E2, E5, E6, E7, E8, E28, E29, E30, E31, E32, E33, E34, E35, E36, E37, E38, E39, E40, E41, E42, E43, E44, E45, E46, E47, E48, E49, E50, E51, E52, E53, E54, E55, E56, E57, E58, E59, E60, E61, E62, E63, (48, .one .top (.bool ((p0.Fields_.length : Int) != (p1.Fields_.length : Int)))), (49, .one .top (.bool ((p0.Fields_.length : Int) != (p1.Fields_.length : Int))))], [B3, B4], H⟩ (by kernel_rfl) (by kernel_rfl) ?_
  refine o_eq2 (congrArg (fun q0 => (⟨[E1, E2, (49, .one .top (.bool q0))], [B3, B4], H⟩ : St)) (show ((p0.Fields_.length : Int) != (p1.Fields_.length : Int)) = ((p0.Kind_ != p1.Kind_) || ((p0.Len_ != p1.Len_) || ((p0.Base_ != p1.Base_) || ((p0.Size_ != p1.Size_) || ((p0.Open_ != p1.Open_) || ((p0.Fields_.length : Int) != (p1.Fields_.length : Int))))))) by simp [h1, h2, h3, h4, h5])) ?_
  exact o_end (by kernel_rfl) (by kernel_rfl)
  rcases if_inv hF with ⟨h6, hF⟩ | ⟨h6, hF⟩
  refine w_cT (m := .top) h6 (s1 := S100) (by kernel_rfl) (by kernel_rfl) ?_
  refine w_seq ?_
  refine w_reg S101 (by kernel_rfl) ?_
  refine w_ret ?_
  obtain e0 := some1_inv hF
  subst e0
  exact fin_pure (v := .one .top (.bool false)) (by kernel_rfl) (by kernel_rfl) rfl (by kernel_rfl)
  refine w_cF (m := .top) h6 (s1 := S97) (by kernel_rfl) (by kernel_rfl) ?_
  refine w_skip ?_
  refine w_seq ?_
  refine w_seq ?_
  refine w_reg ⟨[E1, E2, (5, .one .top (.int .i64 0))], [B3, B4], H⟩ (by kernel_rfl) ?_
  refine w_block ?_
  obtain ⟨r16, hL17, hF⟩ := bind1_inv hF
  refine w_loop (fun (x : (Int)) => (⟨[E1, E2, (5, .one .top (.int .i64 x))], [B3, B4], H⟩ : St)) (Sum.elim (fun (y : Unit) => ((.exit 0, S100) : Ex × St)) (fun (y : Unit) => ((.ret, S101) : Ex × St))) hL17 (by kernel_rfl) ?_ ?_
  rintro a7 o hF
  replace hF : law09_is_L1 p1 p0 a7 = some o := hF
  let E65 : Nat × TV := (5, .one .top (.int .i64 a7))
  let E66 : Nat × TV := (54, .one .top (.bool (decide (a7 < (p1.Fields_.length : Int)))))
  let E67 : Nat × TV := (50, .one .top (.int .i64 a7))
  let E77 : Nat × TV := (59, .one .top (.int .i64 a7))
  let E81 : Nat × TV := (64, .one .top (.int .i64 a7))
  let S102 : St := ⟨[E1, E2, E65, E67, E68, E69], [B3, B4], H⟩
  let S103 : St := ⟨[E1, E2, E65], [B3, B4], H⟩
  let S104 : St := ⟨[E1, E2, E65, E75, E76, E77], [B3, B4], H⟩
  unfold law09_is_L1 at hF
  refine w_seq ?_
  refine w_seq ?_
  refine w_regO ⟨[E1, E2, E65, E66], [B3, B4], H⟩ ?_ ?_
  refine o_run 3 S102 (by kernel_rfl) (by kernel_rfl) ?_
  refine o_one ⟨[E1, E2, E65, E67, E68, E69, E70], [B3, B4], H⟩ (st_len S102 p1.Fields_ e_ref09_Field (some 53) (by kernel_rfl) (by kernel_rfl)) ?_
  refine o_run 1 ⟨[E1, E2, E65, E67, E68, E69, E70, E66], [B3, B4], H⟩ (by kernel_rfl) (by kernel_rfl) ?_
  exact o_end (by kernel_rfl) (by kernel_rfl)
  rcases if_inv hF with ⟨h8, hF⟩ | ⟨h8, hF⟩
  refine w_cT (m := .top) h8 (s1 := S103) (by kernel_rfl) (by kernel_rfl) ?_
  refine w_skip ?_
  refine w_seq ?_
  refine w_block ?_
  refine w_seq ?_
  obtain ⟨x9, h10, hF⟩ := bind1_inv hF
  let B73 : Nat × List MC := (6, (m0_types_Field x9))
  let E78 : Nat × TV := (60, .one .top (.rd .bl .bl [.str x9.Name_, .int .i64 x9.Type_, .int .i64 x9.Offset_] 0))
  let E84 : Nat × TV := (61, .agg (m0_types_Field x9))
  let E88 : Nat × TV := (68, .one .top (.str x9.Name_))
  let E94 : Nat × TV := (74, .one .top (.int .i64 x9.Type_))
  let S105 : St := ⟨[E1, E2, E65, E75, E76, E77, E78, E79, E80, E81], [B3, B4], H⟩
  obtain ⟨x11, h12, hF⟩ := bind1_inv hF
  let B74 : Nat × List MC := (7, (m0_ref09_Field x11))
  let E82 : Nat × TV := (65, .one .top (.rd (.own 0) (.own 0) [.str x11.Name_, .int .i64 x11.Type_, .int .i64 x11.Offset_] 0))
  let E83 : Nat × TV := (66, .agg (m0_ref09_Field x11))
  let E90 : Nat × TV := (70, .one .top (.str x11.Name_))
  let E96 : Nat × TV := (76, .one .top (.int .i64 x11.Type_))
  let S106 : St := ⟨[E1, E2, E65, E71, E72, E75, E76, E77, E78, E84, E79, E80, E81, E82, E83], [B3, B4, B73, B74], H⟩
  let S107 : St := ⟨[E1, E2, E65, E71, E75, E76, E77, E78, E84, E79, E80, E81, E82, E83], [B3, B4, B85], H⟩
  let S108 : St := ⟨[E1, E2, E65, E71, E72, E75, E76, E77, E78, E84, E79, E80, E81, E82, E83], [B3, B4, B85, B86], H⟩
  let S109 : St := ⟨[E1, E2, E65, E71, E72, E75, E76, E77, E78, E84, E79, E80, E81, E82, E83], [B3, B4, B73, B86], H⟩
  let S110 : St := ⟨[E1, E2, E65, E72, E75, E76, E77, E78, E84, E79, E80, E81, E82, E83], [B3, B4, B86], H⟩
  let S111 : St := ⟨[E1, E2, E65, E71, E72, E75, E76, E77, E78, E79, E80, E81, E82, E83], [B3, B4, B85, B86], H⟩
  let K114 : Sch := .last 4 (.last 12 (.last 13 .done))
  let K112 : Sch := .last 11 (.last 12 (.last 13 .done))
  let K113 : Sch := .last 10 (.last 12 (.last 13 .done))
  refine w_regD (.take 0 (.take 1 (.take 2 (.take 3 (.take 5 (.take 6 (.take 7 (.take 8 (.take 9 (.alt 4 (.alt 10 K112 (.last 11 K113)) (.alt 10 (.alt 4 K112 (.last 11 K114)) (.last 11 (.alt 4 K113 (.last 10 K114)))))))))))))) (by kernel_rfl) (⟨[E1, E2, E65, E71, E72], [B3, B4, B73, B74], H⟩ : St) ?_ ?_
  refine d_take ⟨[E1, E2, E65, E75], [B3, B4], H⟩ (by kernel_rfl) ?_
  refine d_take ⟨[E1, E2, E65, E75, E76], [B3, B4], H⟩ (by kernel_rfl) ?_
  refine d_take S104 (by kernel_rfl) ?_
  refine d_take ⟨[E1, E2, E65, E75, E76, E77, E78], [B3, B4], H⟩ (st_ix (X := X) S104 53 58 3 h10 e_types_Field .bl (some 60) (by kernel_rfl) (by kernel_rfl) (by kernel_rfl) (by kernel_rfl)) ?_
  refine d_take ⟨[E1, E2, E65, E75, E76, E77, E78, E79], [B3, B4], H⟩ (by kernel_rfl) ?_
  refine d_take ⟨[E1, E2, E65, E75, E76, E77, E78, E79, E80], [B3, B4], H⟩ (by kernel_rfl) ?_
  refine d_take S105 (by kernel_rfl) ?_
  refine d_take ⟨[E1, E2, E65, E75, E76, E77, E78, E79, E80, E81, E82], [B3, B4], H⟩ (st_ix (X := X) S105 75 71 3 h12 e_ref09_Field (.own 0) (some 65) (by kernel_rfl) (by kernel_rfl) (by kernel_rfl) (by kernel_rfl)) ?_
  refine d_take ⟨[E1, E2, E65, E75, E76, E77, E78, E79, E80, E81, E82, E83], [B3, B4], H⟩ (by kernel_rfl) ?_
  refine q_in S106 ?_ ?_
  refine q_alt ⟨[E1, E2, E65, E75, E76, E77, E78, E84, E79, E80, E81, E82, E83], [B3, B4], H⟩ (by kernel_rfl) ?_ ?_
  refine q_alt S107 (by kernel_rfl) ?_ ?_
  refine q_last S108 (by kernel_rfl) ?_
  refine q_last S109 (by kernel_rfl) ?_
  refine q_last S106 (by kernel_rfl) ?_
  exact q_end (by kernel_rfl)
  refine q_last S110 (by kernel_rfl) ?_
  refine q_last S108 (by kernel_rfl) ?_
  refine q_last S109 (by kernel_rfl) ?_
  refine q_last S106 (by kernel_rfl) ?_
  exact q_end (by kernel_rfl)
  refine q_alt ⟨[E1, E2, E65, E71, E75, E76, E77, E78, E79, E80, E81, E82, E83], [B3, B4, B85], H⟩ (by kernel_rfl) ?_ ?_
  refine q_alt S107 (by kernel_rfl) ?_ ?_
  refine q_last S108 (by kernel_rfl) ?_
  refine q_last S109 (by kernel_rfl) ?_
  refine q_last S106 (by kernel_rfl) ?_
  exact q_end (by kernel_rfl)
  refine q_last S111 (by kernel_rfl) ?_
  refine q_last S108 (by kernel_rfl) ?_
  refine q_last S109 (by kernel_rfl) ?_
  refine q_last S106 (by kernel_rfl) ?_
  exact q_end (by kernel_rfl)
  refine q_last ⟨[E1, E2, E65, E72, E75, E76, E77, E78, E79, E80, E81, E82, E83], [B3, B4, B86], H⟩ (by kernel_rfl) ?_
  refine q_alt S110 (by kernel_rfl) ?_ ?_
  refine q_last S108 (by kernel_rfl) ?_
  refine q_last S109 (by kernel_rfl) ?_
  refine q_last S106 (by kernel_rfl) ?_
  exact q_end (by kernel_rfl)
  refine q_last S111 (by kernel_rfl) ?_
  refine q_last S108 (by kernel_rfl) ?_
  refine q_last S109 (by kernel_rfl) ?_
  refine q_last S106 (by kernel_rfl) ?_
  exact q_end (by kernel_rfl)
  kernel_rfl
  refine w_seq ?_
  refine w_regO ⟨[E1, E2, E65, (85, .one .top (.bool ((!strEq x9.Name_ x11.Name_) || ((x9.Type_ != x11.Type_) || (x9.Offset_ != x11.Offset_)))))], [B3, B4], H⟩ ?_ ?_
  refine o_run 6 ⟨[E1, E2, E65, E71, E72, E87, E88, E89, E90, (71, .one .top (.bool (!strEq x9.Name_ x11.Name_))), (72, .one .top (.bool (!strEq x9.Name_ x11.Name_)))], [B3, B4, B73, B74], H⟩ (by kernel_rfl) (by kernel_rfl) ?_
  rcases bool_cases (!strEq x9.Name_ x11.Name_) with h13 | h13
  refine o_eq (congrArg (fun q => (⟨[E1, E2, E65, E71, E72, E87, E88, E89, E90, (71, .one .top (.bool q)), (72, .one .top (.bool q))], [B3, B4, B73, B74], H⟩ : St)) h13) ?_
  refine o_run 13 ⟨[E1, E2, E65, E71, E72, E87, E88, E89, E90, (71, .one .top (.bool true)), (72, .one .top (.bool true)), (73, .tup []), (74, .tup []), (75, .tup []), (76, .tup []), (77, .tup []), (78, .one .top (.bool true)), (79, .one .top (.bool true)), (80, .tup []), (81, .tup []), (82, .tup []), (83, .tup []), (84, .tup []), (85, .one .top (.bool true))], [B3, B4, B73, B74], H⟩ (by kernel_rfl) (by kernel_rfl) ?_
  refine o_eq2 (congrArg (fun q0 => (⟨[E1, E2, E65, (85, .one .top (.bool q0))], [B3, B4], H⟩ : St)) (show true = ((!strEq x9.Name_ x11.Name_) || ((x9.Type_ != x11.Type_) || (x9.Offset_ != x11.Offset_))) by simp [h13])) ?_
  exact o_end (by kernel_rfl) (by kernel_rfl)
  refine o_eq (congrArg (fun q => (⟨[E1, E2, E65, E71, E72, E87, E88, E89, E90, (71, .one .top (.bool q)), (72, .one .top (.bool q))], [B3, B4, B73, B74], H⟩ : St)) h13) ?_
  refine o_run 7 ⟨[E1, E2, E65, E71, E72, E87, E88, E89, E90, E91, E92, E93, E94, E95, E96, (77, .one .top (.bool (x9.Type_ != x11.Type_))), (78, .one .top (.bool (x9.Type_ != x11.Type_))), (79, .one .top (.bool (x9.Type_ != x11.Type_)))], [B3, B4, B73, B74], H⟩ (by kernel_rfl) (by kernel_rfl) ?_
  rcases bool_cases (x9.Type_ != x11.Type_) with h14 | h14
  refine o_eq (congrArg (fun q => (⟨[E1, E2, E65, E71, E72, E87, E88, E89, E90, E91, E92, E93, E94, E95, E96, (77, .one .top (.bool q)), (78, .one .top (.bool q)), (79, .one .top (.bool q))], [B3, B4, B73, B74], H⟩ : St)) h14) ?_
  refine o_run 6 ⟨[E1, E2, E65, E71, E72, E87, E88, E89, E90, E91, E92, E93, E94, E95, E96, (77, .one .top (.bool true)), (78, .one .top (.bool true)), (79, .one .top (.bool true)), (80, .tup []), (81, .tup []), (82, .tup []), (83, .tup []), (84, .tup []), (85, .one .top (.bool true))], [B3, B4, B73, B74], H⟩ (by kernel_rfl) (by kernel_rfl) ?_
  refine o_eq2 (congrArg (fun q0 => (⟨[E1, E2, E65, (85, .one .top (.bool q0))], [B3, B4], H⟩ : St)) (show true = ((!strEq x9.Name_ x11.Name_) || ((x9.Type_ != x11.Type_) || (x9.Offset_ != x11.Offset_))) by simp [h13, h14])) ?_
  exact o_end (by kernel_rfl) (by kernel_rfl)
  refine o_eq (congrArg (fun q => (⟨[E1, E2, E65, E71, E72, E87, E88, E89, E90, E91, E92, E93, E94, E95, E96, (77, .one .top (.bool q)), (78, .one .top (.bool q)), (79, .one .top (.bool q))], [B3, B4, B73, B74], H⟩ : St)) h14) ?_
  refine o_run 6 ⟨[E1, E2, E65, E71, E72, E87, E88, E89, E90, E91, E92, E93, E94, E95, E96, (77, .one .top (.bool false)), (78, .one .top (.bool false)), (79, .one .top (.bool false)), (80, .one .top (.loc 6 2)), (81, .one .top (.int .i64 x9.Offset_)), (82, .one .top (.loc 7 2)), (83, .one .top (.int .i64 x11.Offset_)), (84, .one .top (.bool (x9.Offset_ != x11.Offset_))), (85, .one .top (.bool (x9.Offset_ != x11.Offset_)))], [B3, B4, B73, B74], H⟩ (by kernel_rfl) (by kernel_rfl) ?_
  refine o_eq2 (congrArg (fun q0 => (⟨[E1, E2, E65, (85, .one .top (.bool q0))], [B3, B4], H⟩ : St)) (show (x9.Offset_ != x11.Offset_) = ((!strEq x9.Name_ x11.Name_) || ((x9.Type_ != x11.Type_) || (x9.Offset_ != x11.Offset_))) by simp [h13, h14])) ?_
  exact o_end (by kernel_rfl) (by kernel_rfl)
  rcases if_inv hF with ⟨h15, hF⟩ | ⟨h15, hF⟩
  refine w_cT (m := .top) h15 (s1 := S100) (by kernel_rfl) (by kernel_rfl) ?_
  refine w_seq ?_
  refine w_reg S101 (by kernel_rfl) ?_
  refine w_ret ?_
  cases hF
  exact ⟨_, rfl, (by kernel_rfl)⟩
  refine w_cF (m := .top) h15 (s1 := S103) (by kernel_rfl) (by kernel_rfl) ?_
  refine w_skip ?_
  refine w_reg ⟨[E1, E2, (5, .one .top (.int .i64 (IntKind.wrap .i64 (a7 + 1))))], [B3, B4], H⟩ (by kernel_rfl) ?_
  cases hF
  exact ⟨_, rfl, (by kernel_rfl)⟩
  refine w_cF (m := .top) h8 (s1 := S100) (by kernel_rfl) (by kernel_rfl) ?_
  refine w_exit ?_
  cases hF
  exact ⟨_, rfl, (by kernel_rfl)⟩
  rcases sum2_inv hF with ⟨r16', rfl, hF⟩ | ⟨r16', rfl, hF⟩
  refine w_oe (i := 0) (s := S100) (by kernel_rfl) ?_
  refine e_here ?_
  refine w_seq ?_
  refine w_reg ⟨[(4, .one .top (.bool true))], [], H⟩ (by kernel_rfl) ?_
  refine w_ret ?_
  obtain e0 := some1_inv hF
  subst e0
  exact fin_pure (v := .one .top (.bool true)) (by kernel_rfl) (by kernel_rfl) rfl (by kernel_rfl)
  refine w_or (s := S101) (by kernel_rfl) ?_
  obtain e0 := some1_inv hF
  subst e0
  exact fin_pure (v := .one .top (.bool false)) (by kernel_rfl) (by kernel_rfl) rfl (by kernel_rfl)
noncomputable def law09_played_L1 (p0 : (List T_law09_Op)) (r1 : Ptr) (a6 : (List T_ref09_Type)) (a7 : Int) (H8 : Heap) : Option (((List T_ref09_Type) × Int × Heap) ⊕ (((List T_ref09_Type) × Heap) ⊕ ((List T_ref09_Type) × Heap))) :=
  if ((decide (a7 < (p0.length : Int))) && (decide (a7 < 60))) = true then (bind1 (gi p0 a7) fun x11 =>
  bind3 (law09_do H8 r1 a6 x11) fun H16 r13 r14 =>
  bind1 (if (!r14) = true then (some true) else (bind1 (types_Table_Len H16 r1) fun r18 =>
  some (r18 != (r13.length : Int)))) fun w20 =>
  if w20 = true then (some (Sum.inr (Sum.inr (a6, H16))))
  else (some (Sum.inl (r13, (IntKind.wrap .i64 (a7 + 1)), H16))))
  else (some (Sum.inr (Sum.inl (a6, H8))))
noncomputable def law09_played_L2 (b25 : (List T_ref09_Type)) (H26 : Heap) (r1 : Ptr) (a27 : Int) : Option ((Int) ⊕ (Unit ⊕ Unit)) :=
  if (decide (a27 < (b25.length : Int))) = true then (bind1 (gi b25 a27) fun x29 =>
  bind1 (types_Table_Get H26 r1 a27) fun r31 =>
  bind1 (law09_is r31 x29) fun r33 =>
  if (!r33) = true then (some (Sum.inr (Sum.inr ())))
  else (some (Sum.inl (IntKind.wrap .i64 (a27 + 1)))))
  else (some (Sum.inr (Sum.inl ())))
noncomputable def law09_played (H : Heap) (p0 : (List T_law09_Op)) : Option (Heap × Ptr × (List T_ref09_Type) × Bool) :=
  bind2 (types_New H) fun H3 r1 =>
  bind1 (ref09_New) fun r4 =>
  bind1 (loopO (fun (x : ((List T_ref09_Type) × Int × Heap)) => law09_played_L1 p0 r1 x.1 x.2.1 x.2.2) (r4, 0, H3)) (sum2 (tup2 fun b25 H26 =>
  bind1 (loopO (fun (x : (Int)) => law09_played_L2 b25 H26 r1 x) 0) (sum2 (fun (_ : Unit) =>
  some (H26, r1, b25, true)) (fun (_ : Unit) =>
  some (H26, r1, b25, false)))) (tup2 fun b38 H39 =>
  some (H39, r1, b38, false)))
theorem ok_law09_played (H : Heap) {p0 : (List T_law09_Op)} {ra : Ptr} {rb : (List T_ref09_Type)} {rc : Bool} {Hr : Heap} (hF : law09_played H p0 = some (Hr, ra, rb, rc)) : evS X 21 [.one .ro (.sl 4 (List.map e_law09_Op p0))] H = some (.tup [.one .top (Ptr.av ra), .one (.own 0) (.sl 6 (List.map e_ref09_Type rb)), .one .top (.bool rc)], Hr) := by
  let E1 : Nat × TV := (0, .one .ro (.sl 4 (List.map e_law09_Op p0)))
  let E7 : Nat × TV := (4, .one .top (.bool false))
  let E11 : Nat × TV := (14, .one .ro (.sl 4 (List.map e_law09_Op p0)))
  let E12 : Nat × TV := (15, .one .top (.int .i64 (p0.length : Int)))
  let E17 : Nat × TV := (26, .one .ro (.sl 4 (List.map e_law09_Op p0)))
  let E23 : Nat × TV := (34, .one .top (.bool false))
  let E24 : Nat × TV := (35, .one .top (.bool false))
  let S44 : St := ⟨[E1], [], H⟩
  refine w_fun Try.func21 rfl (by kernel_rfl) false (by kernel_rfl) (s0 := S44) (by kernel_rfl) ?_
  unfold law09_played at hF
  refine w_seq ?_
  refine w_reg S44 (by kernel_rfl) ?_
  refine w_seq ?_
  obtain ⟨H3, r1, c2, hF⟩ := bind2_inv hF
  let E2 : Ptr → Nat × TV := fun z0 => (5, .one .top (Ptr.av z0))
  let E4 : Ptr → Nat × TV := fun z0 => (11, .one .top (Ptr.av z0))
  let E6 : Ptr → Nat × TV := fun z0 => (2, .one .top (Ptr.av z0))
  let E15 : Ptr → Nat × TV := fun z0 => (24, .one .top (Ptr.av z0))
  let E25 : Ptr → Nat × TV := fun z0 => (36, .one .top (Ptr.av z0))
  let E37 : Ptr → Nat × TV := fun z0 => (51, .one .top (Ptr.av z0))
  let S45 : Ptr → St := fun z0 => ⟨[E1, (E4 z0)], [], H3⟩
  obtain ⟨r4, c5, hF⟩ := bind1_inv hF
  let E3 : Nat × TV := (6, .one (.own 0) (.sl 6 (List.map e_ref09_Type r4)))
  let E5 : Nat × TV := (12, .one (.own 0) (.sl 6 (List.map e_ref09_Type r4)))
  refine w_regO ⟨[E1, (E2 r1), E3], [], H3⟩ ?_ ?_
  refine o_one (S45 r1) (st_call (d := (some 11)) (fz := false) (pure := false) (own := false) S44 (ok_types_New H c2) (by generalize r1 = qp0; cases qp0 <;> kernel_rfl) (by generalize r1 = qp0; cases qp0 <;> kernel_rfl)) ?_
  refine o_one ⟨[E1, (E4 r1), E5], [], H3⟩ (st_call (d := (some 12)) (fz := false) (pure := true) (own := false) (S45 r1) (ok_ref09_New H3 c5) (by generalize r1 = qp0; cases qp0 <;> kernel_rfl) (by generalize r1 = qp0; cases qp0 <;> kernel_rfl)) ?_
  refine o_run 2 ⟨[E1, (E2 r1), E3, (E4 r1), E5], [], H3⟩ (by kernel_rfl) (by generalize r1 = qp0; cases qp0 <;> kernel_rfl) ?_
  exact o_end (by kernel_rfl) (by kernel_rfl)
  refine w_seq ?_
  refine w_seq ?_
  refine w_reg ⟨[E1, (E2 r1), E3, (7, .one .top (.int .i64 0))], [], H3⟩ (by generalize r1 = qp0; cases qp0 <;> kernel_rfl) ?_
  refine w_block ?_
  obtain ⟨r23, hL24, hF⟩ := bind1_inv hF
  refine w_loop (fun (x : ((List T_ref09_Type) × Int × Heap)) => (⟨[E1, (E2 r1), (6, .one (.own 0) (.sl 6 (List.map e_ref09_Type x.1))), (7, .one .top (.int .i64 x.2.1))], [], x.2.2⟩ : St)) (Sum.elim (fun (y : ((List T_ref09_Type) × Heap)) => ((.exit 0, (⟨[(E2 r1), (6, .one (.own 0) (.sl 6 (List.map e_ref09_Type y.1)))], [], y.2⟩ : St)) : Ex × St)) (fun (y : ((List T_ref09_Type) × Heap)) => ((.ret, (⟨[(E6 r1), (3, .one (.own 0) (.sl 6 (List.map e_ref09_Type y.1))), E7], [], y.2⟩ : St)) : Ex × St))) hL24 (by kernel_rfl) ?_ ?_
  rintro ⟨a6, a7, H8⟩ o hF
  replace hF : law09_played_L1 p0 r1 a6 a7 H8 = some o := hF
  let E8 : Nat × TV := (6, .one (.own 0) (.sl 6 (List.map e_ref09_Type a6)))
  let E9 : Nat × TV := (7, .one .top (.int .i64 a7))
  let E10 : Nat × TV := (13, .one .top (.int .i64 a7))
  let E16 : Nat × TV := (25, .one (.own 0) (.sl 6 (List.map e_ref09_Type a6)))
  let E18 : Nat × TV := (27, .one .top (.int .i64 a7))
  let S46 : Ptr → St := fun z0 => ⟨[E1, (E2 z0), E8, E9, E10, E11], [], H8⟩
  let S47 : Ptr → St := fun z0 => ⟨[E1, (E2 z0), E8, E9, (E15 z0), E16, E17, E18], [], H8⟩
  unfold law09_played_L1 at hF
  refine w_seq ?_
  refine w_seq ?_
  refine w_regO ⟨[E1, (E2 r1), E8, E9, (20, .one .top (.bool ((decide (a7 < (p0.length : Int))) && (decide (a7 < 60)))))], [], H8⟩ ?_ ?_
  refine o_run 2 (S46 r1) (by kernel_rfl) (by generalize r1 = qp0; cases qp0 <;> kernel_rfl) ?_
  refine o_one ⟨[E1, (E2 r1), E8, E9, E10, E11, E12], [], H8⟩ (st_len (S46 r1) p0 e_law09_Op (some 15) (by generalize r1 = qp0; cases qp0 <;> kernel_rfl) (by generalize r1 = qp0; cases qp0 <;> kernel_rfl)) ?_
  refine o_run 2 ⟨[E1, (E2 r1), E8, E9, E10, E11, E12, (16, .one .top (.bool (decide (a7 < (p0.length : Int))))), (17, .one .top (.bool (decide (a7 < (p0.length : Int)))))], [], H8⟩ (by kernel_rfl) (by generalize r1 = qp0; cases qp0 <;> kernel_rfl) ?_
  rcases bool_cases (decide (a7 < (p0.length : Int))) with h9 | h9
  refine o_eq (congrArg (fun q => (⟨[E1, (E2 r1), E8, E9, E10, E11, E12, (16, .one .top (.bool q)), (17, .one .top (.bool q))], [], H8⟩ : St)) h9) ?_
  refine o_run 3 ⟨[E1, (E2 r1), E8, E9, E10, E11, E12, (16, .one .top (.bool true)), (17, .one .top (.bool true)), (18, .one .top (.int .i64 a7)), (19, .one .top (.bool (decide (a7 < 60)))), (20, .one .top (.bool (decide (a7 < 60))))], [], H8⟩ (by kernel_rfl) (by generalize r1 = qp0; cases qp0 <;> kernel_rfl) ?_
  refine o_eq2 (congrArg (fun q0 => (⟨[E1, (E2 r1), E8, E9, (20, .one .top (.bool q0))], [], H8⟩ : St)) (show (decide (a7 < 60)) = ((decide (a7 < (p0.length : Int))) && (decide (a7 < 60))) by simp [h9])) ?_
  exact o_end (by kernel_rfl) (by kernel_rfl)
  refine o_eq (congrArg (fun q => (⟨[E1, (E2 r1), E8, E9, E10, E11, E12, (16, .one .top (.bool q)), (17, .one .top (.bool q))], [], H8⟩ : St)) h9) ?_
  refine o_run 3 ⟨[E1, (E2 r1), E8, E9, E10, E11, E12, (16, .one .top (.bool false)), (17, .one .top (.bool false)), (18, .tup []), (19, .tup []), (20, .one .top (.bool false))], [], H8⟩ (by kernel_rfl) (by generalize r1 = qp0; cases qp0 <;> kernel_rfl) ?_
  refine o_eq2 (congrArg (fun q0 => (⟨[E1, (E2 r1), E8, E9, (20, .one .top (.bool q0))], [], H8⟩ : St)) (show false = ((decide (a7 < (p0.length : Int))) && (decide (a7 < 60))) by simp [h9])) ?_
  exact o_end (by kernel_rfl) (by kernel_rfl)
  rcases if_inv hF with ⟨h10, hF⟩ | ⟨h10, hF⟩
  refine w_cT (m := .top) h10 (s1 := (⟨[E1, (E2 r1), E8, E9], [], H8⟩ : St)) (by kernel_rfl) (by kernel_rfl) ?_
  refine w_skip ?_
  refine w_seq ?_
  refine w_block ?_
  refine w_seq ?_
  obtain ⟨x11, h12, hF⟩ := bind1_inv hF
  let E19 : Nat × TV := (28, .one .top (.rd .ro .ro [.int .i64 x11.Kind_, .int .i64 x11.A_, .int .i64 x11.B_, .str x11.Name_] 0))
  let E20 : Nat × TV := (29, .agg (m0_law09_Op x11))
  let S48 : Ptr → St := fun z0 => ⟨[E1, (E2 z0), E8, E9, (E15 z0), E16, E17, E18, E19, E20], [], H8⟩
  obtain ⟨H16, r13, r14, c15, hF⟩ := bind3_inv hF
  let E13 : Nat × TV := (8, .one (.own 0) (.sl 6 (List.map e_ref09_Type r13)))
  let E14 : Nat × TV := (9, .one .top (.bool r14))
  let E21 : Nat × TV := (30, .tup [.one (.own 0) (.sl 6 (List.map e_ref09_Type r13)), .one .top (.bool r14)])
  let E22 : Nat × TV := (33, .one .top (.bool r14))
  let E27 : Nat × TV := (38, .one (.own 0) (.sl 6 (List.map e_ref09_Type r13)))
  let E28 : Nat × TV := (39, .one .top (.int .i64 (r13.length : Int)))
  let E29 : Nat × TV := (6, .one (.own 0) (.sl 6 (List.map e_ref09_Type r13)))
  let S49 : Ptr → St := fun z0 => ⟨[E1, (E2 z0), E8, E9, E13, E14, E22, E23, E24, (E25 z0)], [], H16⟩
  refine w_regO ⟨[E1, (E2 r1), E8, E9, E13, E14], [], H16⟩ ?_ ?_
  refine o_run 4 (S47 r1) (by kernel_rfl) (by generalize r1 = qp0; cases qp0 <;> kernel_rfl) ?_
  refine o_one ⟨[E1, (E2 r1), E8, E9, (E15 r1), E16, E17, E18, E19], [], H8⟩ (st_ix (X := X) (S47 r1) 46 68 4 h12 e_law09_Op .ro (some 28) (by generalize r1 = qp0; cases qp0 <;> kernel_rfl) (by generalize r1 = qp0; cases qp0 <;> kernel_rfl) (by generalize r1 = qp0; cases qp0 <;> kernel_rfl) (by generalize r1 = qp0; cases qp0 <;> kernel_rfl)) ?_
  refine o_run 1 (S48 r1) (by kernel_rfl) (by generalize r1 = qp0; cases qp0 <;> kernel_rfl) ?_
  refine o_one ⟨[E1, (E2 r1), E8, E9, (E15 r1), E16, E17, E18, E19, E20, E21], [], H16⟩ (st_call (d := (some 30)) (fz := false) (pure := false) (own := false) (S48 r1) (ok_law09_do H8 c15) (by generalize r1 = qp0; cases qp0 <;> kernel_rfl) (by generalize r1 = qp0; cases qp0 <;> kernel_rfl)) ?_
  refine o_run 5 ⟨[E1, (E2 r1), E8, E9, E13, E14, (23, .tup [.one (.own 0) (.sl 6 (List.map e_ref09_Type r13)), .one .top (.bool r14)]), (E15 r1), E16, E17, E18, E19, E20, E21, (31, .one (.own 0) (.sl 6 (List.map e_ref09_Type r13))), (32, .one .top (.bool r14))], [], H16⟩ (by kernel_rfl) (by generalize r1 = qp0; cases qp0 <;> kernel_rfl) ?_
  exact o_end (by kernel_rfl) (by kernel_rfl)
  refine w_seq ?_
  refine w_seq ?_
  obtain ⟨w20, hB21, hF⟩ := bind1_inv hF
  refine w_regO ⟨[E1, (E2 r1), E8, E9, E13, (41, .one .top (.bool w20))], [], H16⟩ ?_ ?_
  refine o_run 3 ⟨[E1, (E2 r1), E8, E9, E13, E14, E22, (34, .one .top (.bool (!r14))), (35, .one .top (.bool (!r14)))], [], H16⟩ (by kernel_rfl) (by generalize r1 = qp0; cases qp0 <;> kernel_rfl) ?_
  rcases if_inv hB21 with ⟨h17, hB21⟩ | ⟨h17, hB21⟩
  refine o_eq (congrArg (fun q => (⟨[E1, (E2 r1), E8, E9, E13, E14, E22, (34, .one .top (.bool q)), (35, .one .top (.bool q))], [], H16⟩ : St)) h17) ?_
  refine o_run 6 ⟨[E1, (E2 r1), E8, E9, E13, E14, E22, (34, .one .top (.bool true)), (35, .one .top (.bool true)), (36, .tup []), (37, .tup []), (38, .tup []), (39, .tup []), (40, .tup []), (41, .one .top (.bool true))], [], H16⟩ (by kernel_rfl) (by generalize r1 = qp0; cases qp0 <;> kernel_rfl) ?_
  cases hB21
  exact o_end (by kernel_rfl) (by kernel_rfl)
  refine o_eq (congrArg (fun q => (⟨[E1, (E2 r1), E8, E9, E13, E14, E22, (34, .one .top (.bool q)), (35, .one .top (.bool q))], [], H16⟩ : St)) h17) ?_
  refine o_run 1 (S49 r1) (by kernel_rfl) (by generalize r1 = qp0; cases qp0 <;> kernel_rfl) ?_
  obtain ⟨r18, c19, hB21⟩ := bind1_inv hB21
  let E26 : Nat × TV := (37, .one .top (.int .i64 r18))
  let S50 : Ptr → St := fun z0 => ⟨[E1, (E2 z0), E8, E9, E13, E14, E22, E23, E24, (E25 z0), E26, E27], [], H16⟩
  refine o_one ⟨[E1, (E2 r1), E8, E9, E13, E14, E22, E23, E24, (E25 r1), E26], [], H16⟩ (st_call (d := (some 37)) (fz := false) (pure := true) (own := false) (S49 r1) (ok_types_Table_Len H16 c19) (by generalize r1 = qp0; cases qp0 <;> kernel_rfl) (by generalize r1 = qp0; cases qp0 <;> kernel_rfl)) ?_
  refine o_run 1 (S50 r1) (by kernel_rfl) (by generalize r1 = qp0; cases qp0 <;> kernel_rfl) ?_
  refine o_one ⟨[E1, (E2 r1), E8, E9, E13, E14, E22, E23, E24, (E25 r1), E26, E27, E28], [], H16⟩ (st_len (S50 r1) r13 e_ref09_Type (some 39) (by generalize r1 = qp0; cases qp0 <;> kernel_rfl) (by generalize r1 = qp0; cases qp0 <;> kernel_rfl)) ?_
  refine o_run 2 ⟨[E1, (E2 r1), E8, E9, E13, E14, E22, E23, E24, (E25 r1), E26, E27, E28, (40, .one .top (.bool (r18 != (r13.length : Int)))), (41, .one .top (.bool (r18 != (r13.length : Int))))], [], H16⟩ (by kernel_rfl) (by generalize r1 = qp0; cases qp0 <;> kernel_rfl) ?_
  cases hB21
  exact o_end (by kernel_rfl) (by kernel_rfl)
  rcases if_inv hF with ⟨h22, hF⟩ | ⟨h22, hF⟩
  refine w_cT (m := .top) h22 (s1 := (⟨[(E2 r1), E8], [], H16⟩ : St)) (by kernel_rfl) (by kernel_rfl) ?_
  refine w_seq ?_
  refine w_reg ⟨[(E6 r1), (3, .one (.own 0) (.sl 6 (List.map e_ref09_Type a6))), E7], [], H16⟩ (by generalize r1 = qp0; cases qp0 <;> kernel_rfl) ?_
  refine w_ret ?_
  cases hF
  exact ⟨_, rfl, (by kernel_rfl)⟩
  refine w_cF (m := .top) h22 (s1 := (⟨[E1, (E2 r1), E9, E13], [], H16⟩ : St)) (by kernel_rfl) (by kernel_rfl) ?_
  refine w_skip ?_
  refine w_reg ⟨[E1, (E2 r1), E29, E9], [], H16⟩ (by generalize r1 = qp0; cases qp0 <;> kernel_rfl) ?_
  refine w_reg ⟨[E1, (E2 r1), E29, (7, .one .top (.int .i64 (IntKind.wrap .i64 (a7 + 1))))], [], H16⟩ (by generalize r1 = qp0; cases qp0 <;> kernel_rfl) ?_
  cases hF
  exact ⟨_, rfl, (by kernel_rfl)⟩
  refine w_cF (m := .top) h10 (s1 := (⟨[(E2 r1), E8], [], H8⟩ : St)) (by kernel_rfl) (by kernel_rfl) ?_
  refine w_exit ?_
  cases hF
  exact ⟨_, rfl, (by kernel_rfl)⟩
  rcases sum2_inv hF with ⟨r23', rfl, hF⟩ | ⟨r23', rfl, hF⟩
  obtain ⟨b25, H26⟩ := r23'
  replace hF := tup2_inv hF
  let E30 : Nat × TV := (6, .one (.own 0) (.sl 6 (List.map e_ref09_Type b25)))
  let E31 : Nat × TV := (3, .one (.own 0) (.sl 6 (List.map e_ref09_Type b25)))
  let E35 : Nat × TV := (46, .one (.own 0) (.sl 6 (List.map e_ref09_Type b25)))
  let E36 : Nat × TV := (47, .one .top (.int .i64 (b25.length : Int)))
  let E39 : Nat × TV := (54, .one (.own 0) (.sl 6 (List.map e_ref09_Type b25)))
  let S51 : Ptr → St := fun z0 => ⟨[(E2 z0), E30], [], H26⟩
  let S52 : Ptr → St := fun z0 => ⟨[(E6 z0), E31, E7], [], H26⟩
  refine w_oe (i := 0) (s := (S51 r1)) (by kernel_rfl) ?_
  refine e_here ?_
  refine w_seq ?_
  refine w_seq ?_
  refine w_reg ⟨[(E2 r1), E30, (10, .one .top (.int .i64 0))], [], H26⟩ (by generalize r1 = qp0; cases qp0 <;> kernel_rfl) ?_
  refine w_block ?_
  obtain ⟨r36, hL37, hF⟩ := bind1_inv hF
  refine w_loop (fun (x : (Int)) => (⟨[(E2 r1), E30, (10, .one .top (.int .i64 x))], [], H26⟩ : St)) (Sum.elim (fun (y : Unit) => ((.exit 2, (S51 r1)) : Ex × St)) (fun (y : Unit) => ((.ret, (S52 r1)) : Ex × St))) hL37 (by kernel_rfl) ?_ ?_
  rintro a27 o hF
  replace hF : law09_played_L2 b25 H26 r1 a27 = some o := hF
  let E32 : Nat × TV := (10, .one .top (.int .i64 a27))
  let E33 : Nat × TV := (48, .one .top (.bool (decide (a27 < (b25.length : Int)))))
  let E34 : Nat × TV := (45, .one .top (.int .i64 a27))
  let E38 : Nat × TV := (52, .one .top (.int .i64 a27))
  let E40 : Nat × TV := (55, .one .top (.int .i64 a27))
  let S53 : Ptr → St := fun z0 => ⟨[(E2 z0), E30, E32, E34, E35], [], H26⟩
  let S54 : Ptr → St := fun z0 => ⟨[(E2 z0), E30, E32], [], H26⟩
  let S55 : Ptr → St := fun z0 => ⟨[(E2 z0), E30, E32, (E37 z0), E38, E39, E40], [], H26⟩
  unfold law09_played_L2 at hF
  refine w_seq ?_
  refine w_seq ?_
  refine w_regO ⟨[(E2 r1), E30, E32, E33], [], H26⟩ ?_ ?_
  refine o_run 2 (S53 r1) (by kernel_rfl) (by generalize r1 = qp0; cases qp0 <;> kernel_rfl) ?_
  refine o_one ⟨[(E2 r1), E30, E32, E34, E35, E36], [], H26⟩ (st_len (S53 r1) b25 e_ref09_Type (some 47) (by generalize r1 = qp0; cases qp0 <;> kernel_rfl) (by generalize r1 = qp0; cases qp0 <;> kernel_rfl)) ?_
  refine o_run 1 ⟨[(E2 r1), E30, E32, E34, E35, E36, E33], [], H26⟩ (by kernel_rfl) (by generalize r1 = qp0; cases qp0 <;> kernel_rfl) ?_
  exact o_end (by kernel_rfl) (by kernel_rfl)
  rcases if_inv hF with ⟨h28, hF⟩ | ⟨h28, hF⟩
  refine w_cT (m := .top) h28 (s1 := (S54 r1)) (by kernel_rfl) (by kernel_rfl) ?_
  refine w_skip ?_
  refine w_seq ?_
  refine w_block ?_
  refine w_seq ?_
  obtain ⟨x29, h30, hF⟩ := bind1_inv hF
  let E41 : Nat × TV := (56, .one .top (.rd (.own 0) (.own 0) [.int .i64 x29.Kind_, .int .i64 x29.Len_, .int .i64 x29.Base_, .int .i64 x29.Size_, .bool x29.Open_, .sl 3 (List.map e_ref09_Field x29.Fields_)] 0))
  let E42 : Nat × TV := (57, .agg (m0_ref09_Type x29))
  let S56 : Ptr → St := fun z0 => ⟨[(E2 z0), E30, E32, (E37 z0), E38, E39, E40, E41, E42], [], H26⟩
  obtain ⟨r31, c32, hF⟩ := bind1_inv hF
  let E43 : Nat × TV := (53, .agg [(.top, .int .i64 r31.Kind_), (.top, .int .i64 r31.Len_), (.top, .int .i64 r31.Base_), (.top, .int .i64 r31.Size_), (.top, .bool r31.Open_), (.top, .junk)])
  obtain ⟨r33, c34, hF⟩ := bind1_inv hF
  refine w_regD (.take 0 (.take 1 (.take 3 (.take 4 (.take 5 (.take 6 (.last 2 (.last 7 (.take 8 .done))))))))) (by kernel_rfl) (⟨[(E2 r1), E30, E32, (59, .one .top (.bool (!r33)))], [], H26⟩ : St) ?_ ?_
  refine d_take ⟨[(E2 r1), E30, E32, (E37 r1)], [], H26⟩ (by generalize r1 = qp0; cases qp0 <;> kernel_rfl) ?_
  refine d_take ⟨[(E2 r1), E30, E32, (E37 r1), E38], [], H26⟩ (by generalize r1 = qp0; cases qp0 <;> kernel_rfl) ?_
  refine d_take ⟨[(E2 r1), E30, E32, (E37 r1), E38, E39], [], H26⟩ (by generalize r1 = qp0; cases qp0 <;> kernel_rfl) ?_
  refine d_take (S55 r1) (by generalize r1 = qp0; cases qp0 <;> kernel_rfl) ?_
  refine d_take ⟨[(E2 r1), E30, E32, (E37 r1), E38, E39, E40, E41], [], H26⟩ (st_ix (X := X) (S55 r1) 48 77 6 h30 e_ref09_Type (.own 0) (some 56) (by generalize r1 = qp0; cases qp0 <;> kernel_rfl) (by generalize r1 = qp0; cases qp0 <;> kernel_rfl) (by generalize r1 = qp0; cases qp0 <;> kernel_rfl) (by generalize r1 = qp0; cases qp0 <;> kernel_rfl)) ?_
  refine d_take (S56 r1) (by generalize r1 = qp0; cases qp0 <;> kernel_rfl) ?_
  refine d_last ⟨[(E2 r1), E30, E32, (E37 r1), E38, (53, .agg (m1_types_Type r31)), E39, E40, E41, E42], [], H26⟩ (st_call (d := (some 53)) (fz := false) (pure := true) (own := false) (S56 r1) (ok_types_Table_Get H26 c32) (by generalize r1 = qp0; cases qp0 <;> kernel_rfl) (by generalize r1 = qp0; cases qp0 <;> kernel_rfl)) ?_
  refine d_last ⟨[(E2 r1), E30, E32, (E37 r1), E38, E43, E39, E40, E41, E42, (58, .one .top (.bool r33))], [], H26⟩ (st_call (d := (some 58)) (fz := false) (pure := true) (own := true) (⟨[(E2 r1), E30, E32, (E37 r1), E38, E43, E39, E40, E41, E42], [], H26⟩ : St) (ok_law09_is H26 c34) (by generalize r1 = qp0; cases qp0 <;> kernel_rfl) (by generalize r1 = qp0; cases qp0 <;> kernel_rfl)) ?_
  refine d_take ⟨[(E2 r1), E30, E32, (E37 r1), E38, E43, E39, E40, E41, E42, (58, .one .top (.bool r33)), (59, .one .top (.bool (!r33)))], [], H26⟩ (by generalize r1 = qp0; cases qp0 <;> kernel_rfl) ?_
  exact d_end (by kernel_rfl)
  rcases if_inv hF with ⟨h35, hF⟩ | ⟨h35, hF⟩
  refine w_cT (m := .top) h35 (s1 := (S51 r1)) (by kernel_rfl) (by kernel_rfl) ?_
  refine w_seq ?_
  refine w_reg (S52 r1) (by generalize r1 = qp0; cases qp0 <;> kernel_rfl) ?_
  refine w_ret ?_
  cases hF
  exact ⟨_, rfl, (by kernel_rfl)⟩
  refine w_cF (m := .top) h35 (s1 := (S54 r1)) (by kernel_rfl) (by kernel_rfl) ?_
  refine w_skip ?_
  refine w_reg ⟨[(E2 r1), E30, (10, .one .top (.int .i64 (IntKind.wrap .i64 (a27 + 1))))], [], H26⟩ (by generalize r1 = qp0; cases qp0 <;> kernel_rfl) ?_
  cases hF
  exact ⟨_, rfl, (by kernel_rfl)⟩
  refine w_cF (m := .top) h28 (s1 := (S51 r1)) (by kernel_rfl) (by kernel_rfl) ?_
  refine w_exit ?_
  cases hF
  exact ⟨_, rfl, (by kernel_rfl)⟩
  rcases sum2_inv hF with ⟨r36', rfl, hF⟩ | ⟨r36', rfl, hF⟩
  refine w_oe (i := 2) (s := (S51 r1)) (by kernel_rfl) ?_
  refine e_here ?_
  refine w_seq ?_
  refine w_reg ⟨[(E6 r1), E31, (4, .one .top (.bool true))], [], H26⟩ (by generalize r1 = qp0; cases qp0 <;> kernel_rfl) ?_
  refine w_ret ?_
  obtain ⟨e0, e1, e2, e3⟩ := some4_inv hF
  subst e0
  subst e1
  subst e2
  subst e3
  exact fin_imp (v := .tup [.one .top (Ptr.av r1), .one (.own 0) (.sl 6 (List.map e_ref09_Type b25)), .one .top (.bool true)]) (by generalize r1 = qp0; cases qp0 <;> kernel_rfl) (by kernel_rfl) (by kernel_rfl)
  refine w_or (s := (S52 r1)) (by kernel_rfl) ?_
  obtain ⟨e0, e1, e2, e3⟩ := some4_inv hF
  subst e0
  subst e1
  subst e2
  subst e3
  exact fin_imp (v := .tup [.one .top (Ptr.av r1), .one (.own 0) (.sl 6 (List.map e_ref09_Type b25)), .one .top (.bool false)]) (by generalize r1 = qp0; cases qp0 <;> kernel_rfl) (by kernel_rfl) (by kernel_rfl)
  obtain ⟨b38, H39⟩ := r23'
  replace hF := tup2_inv hF
  refine w_or (s := (⟨[(E6 r1), (3, .one (.own 0) (.sl 6 (List.map e_ref09_Type b38))), E7], [], H39⟩ : St)) (by kernel_rfl) ?_
  obtain ⟨e0, e1, e2, e3⟩ := some4_inv hF
  subst e0
  subst e1
  subst e2
  subst e3
  exact fin_imp (v := .tup [.one .top (Ptr.av r1), .one (.own 0) (.sl 6 (List.map e_ref09_Type b38)), .one .top (.bool false)]) (by generalize r1 = qp0; cases qp0 <;> kernel_rfl) (by kernel_rfl) (by kernel_rfl)
noncomputable def types_Table_Find_L1 (r1 : T_types_Type) (p2 : ByteArray) (a4 : Int) : Option ((Int) ⊕ (Unit ⊕ (T_types_Field))) :=
  if (decide (a4 < (r1.Fields_.length : Int))) = true then (bind1 (gi r1.Fields_ a4) fun x6 =>
  if (strEq x6.Name_ p2) = true then (some (Sum.inr (Sum.inr x6)))
  else (some (Sum.inl (IntKind.wrap .i64 (a4 + 1)))))
  else (some (Sum.inr (Sum.inl ())))
noncomputable def types_Table_Find (H : Heap) (p0 : Ptr) (p1 : Int) (p2 : ByteArray) : Option (T_types_Field × Int) :=
  bind1 (types_Table_Get H p0 p1) fun r1 =>
  if (r1.Kind_ != 6) = true then (some ((T_types_Field.mk ByteArray.empty 0 0), 111))
  else (bind1 (loopO (fun (x : (Int)) => types_Table_Find_L1 r1 p2 x) 0) (sum2 (fun (_ : Unit) =>
  some ((T_types_Field.mk ByteArray.empty 0 0), 110)) (fun b11 =>
  some (b11, 0))))
theorem ok_types_Table_Find (H : Heap) {p0 : Ptr} {p1 : Int} {p2 : ByteArray} {ra : T_types_Field} {rb : Int} (hF : types_Table_Find H p0 p1 p2 = some (ra, rb)) : evS X 31 [.one .top (Ptr.av p0), .one .top (.int .i64 p1), .one .top (.str p2)] H = some (.tup [.agg [(.top, .str ra.Name_), (.top, .int .i64 ra.Type_), (.top, .int .i64 ra.Offset_)], .one .top (.int .i64 rb)], H) := by
  let E1 : Ptr → Nat × TV := fun z0 => (0, .one .top (Ptr.av z0))
  let E2 : Nat × TV := (1, .one .top (.int .i64 p1))
  let E3 : Nat × TV := (2, .one .top (.str p2))
  let E4 : Nat × TV := (6, .one .top (.loc 6 0))
  let B5 : Nat × List MC := (6, [(.top, .str ByteArray.empty), (.top, .int .i64 0), (.top, .int .i64 0)])
  let E6 : Nat × TV := (8, .one .top (.loc 8 0))
  let E8 : Ptr → Nat × TV := fun z0 => (11, .one .top (Ptr.av z0))
  let E9 : Nat × TV := (12, .one .top (.int .i64 p1))
  let E12 : Nat × TV := (18, .one .top (.loc 8 5))
  let E13 : Nat × TV := (7, .one .top (.int .i64 0))
  let E15 : Nat × TV := (10, .one .top (.loc 10 0))
  let S19 : Ptr → St := fun z0 => ⟨[(E1 z0), E2, E3, E4, (E8 z0), E9], [B5], H⟩
  let S20 : St := ⟨[E4], [B5], H⟩
  refine w_fun Try.func31 rfl (by kernel_rfl) true (by kernel_rfl) (s0 := (⟨[(E1 p0), E2, E3], [], H⟩ : St)) (by kernel_rfl) ?_
  unfold types_Table_Find at hF
  refine w_seq ?_
  refine w_reg ⟨[(E1 p0), E2, E3, E4], [B5], H⟩ (by generalize p0 = qp0; cases qp0 <;> kernel_rfl) ?_
  refine w_seq ?_
  obtain ⟨r1, c2, hF⟩ := bind1_inv hF
  let B7 : Nat × List MC := (8, (m1_types_Type r1))
  let E10 : Nat × TV := (19, .one .bl (.sl 3 (List.map e_types_Field r1.Fields_)))
  let E11 : Nat × TV := (20, .one .top (.int .i64 (r1.Fields_.length : Int)))
  let S18 : St := ⟨[E3, E4, E6], [B5, B7], H⟩
  let S21 : St := ⟨[E3, E4, E6, E12, E10], [B5, B7], H⟩
  refine w_regO S18 ?_ ?_
  refine o_run 2 (S19 p0) (by kernel_rfl) (by generalize p0 = qp0; cases qp0 <;> kernel_rfl) ?_
  refine o_one ⟨[(E1 p0), E2, E3, E4, (E8 p0), E9, (13, .agg (m1_types_Type r1))], [B5], H⟩ (st_call (d := (some 13)) (fz := false) (pure := true) (own := false) (S19 p0) (ok_types_Table_Get H c2) (by generalize p0 = qp0; cases qp0 <;> kernel_rfl) (by generalize p0 = qp0; cases qp0 <;> kernel_rfl)) ?_
  refine o_run 2 ⟨[(E1 p0), E2, E3, E4, E6, (E8 p0), E9, (13, .agg [(.top, .int .i64 r1.Kind_), (.top, .int .i64 r1.Len_), (.top, .int .i64 r1.Base_), (.top, .int .i64 r1.Size_), (.top, .bool r1.Open_), (.top, .junk)])], [B5, B7], H⟩ (by kernel_rfl) (by generalize p0 = qp0; cases qp0 <;> kernel_rfl) ?_
  exact o_end (by kernel_rfl) (by kernel_rfl)
  refine w_seq ?_
  refine w_seq ?_
  refine w_reg ⟨[E3, E4, E6, (16, .one .top (.bool (r1.Kind_ != 6)))], [B5, B7], H⟩ (by kernel_rfl) ?_
  rcases if_inv hF with ⟨h3, hF⟩ | ⟨h3, hF⟩
  refine w_cT (m := .top) h3 (s1 := S20) (by kernel_rfl) (by kernel_rfl) ?_
  refine w_seq ?_
  refine w_reg ⟨[E4, (7, .one .top (.int .i64 111))], [B5], H⟩ (by kernel_rfl) ?_
  refine w_ret ?_
  obtain ⟨e0, e1⟩ := some2_inv hF
  subst e0
  subst e1
  exact fin_pure (v := .tup [.agg [(.top, .str ByteArray.empty), (.top, .int .i64 0), (.top, .int .i64 0)], .one .top (.int .i64 111)]) (by kernel_rfl) (by kernel_rfl) rfl (by kernel_rfl)
  refine w_cF (m := .top) h3 (s1 := S18) (by kernel_rfl) (by kernel_rfl) ?_
  refine w_skip ?_
  refine w_seq ?_
  refine w_seq ?_
  refine w_regO ⟨[E3, E4, E10, E11, (21, .one .top (.int .i64 0))], [B5], H⟩ ?_ ?_
  refine o_run 2 S21 (by kernel_rfl) (by kernel_rfl) ?_
  refine o_one ⟨[E3, E4, E6, E12, E10, E11], [B5, B7], H⟩ (st_len S21 r1.Fields_ e_types_Field (some 20) (by kernel_rfl) (by kernel_rfl)) ?_
  refine o_run 1 ⟨[E3, E4, E6, E12, E10, E11, (21, .one .top (.int .i64 0))], [B5, B7], H⟩ (by kernel_rfl) (by kernel_rfl) ?_
  exact o_end (by kernel_rfl) (by kernel_rfl)
  refine w_block ?_
  obtain ⟨r9, hL10, hF⟩ := bind1_inv hF
  refine w_loop (fun (x : (Int)) => (⟨[E3, E4, E10, E11, (21, .one .top (.int .i64 x))], [B5], H⟩ : St)) (Sum.elim (fun (y : Unit) => ((.exit 0, S20) : Ex × St)) (fun (y : (T_types_Field)) => ((.ret, (⟨[E4, E13], [(6, (m0_types_Field y))], H⟩ : St)) : Ex × St))) hL10 (by kernel_rfl) ?_ ?_
  rintro a4 o hF
  replace hF : types_Table_Find_L1 r1 p2 a4 = some o := hF
  let E14 : Nat × TV := (21, .one .top (.int .i64 a4))
  let S22 : St := ⟨[E3, E4, E10, E11, E14], [B5], H⟩
  unfold types_Table_Find_L1 at hF
  refine w_seq ?_
  refine w_reg ⟨[E3, E4, E10, E11, E14, (22, .one .top (.bool (decide (a4 < (r1.Fields_.length : Int)))))], [B5], H⟩ (by kernel_rfl) ?_
  refine w_seq ?_
  rcases if_inv hF with ⟨h5, hF⟩ | ⟨h5, hF⟩
  refine w_cT (m := .top) h5 (s1 := S22) (by kernel_rfl) (by kernel_rfl) ?_
  refine w_skip ?_
  refine w_seq ?_
  refine w_block ?_
  refine w_seq ?_
  obtain ⟨x6, h7, hF⟩ := bind1_inv hF
  let B16 : Nat × List MC := (10, (m0_types_Field x6))
  let E17 : Nat × TV := (23, .one .top (.rd .bl .bl [.str x6.Name_, .int .i64 x6.Type_, .int .i64 x6.Offset_] 0))
  refine w_regO ⟨[E3, E4, E15, E10, E11, E14], [B5, B16], H⟩ ?_ ?_
  refine o_one ⟨[E3, E4, E10, E11, E14, E17], [B5], H⟩ (st_ix (X := X) S22 53 58 3 h7 e_types_Field .bl (some 23) (by kernel_rfl) (by kernel_rfl) (by kernel_rfl) (by kernel_rfl)) ?_
  refine o_run 3 ⟨[E3, E4, E15, E10, E11, E14, E17, (24, .agg (m0_types_Field x6))], [B5, B16], H⟩ (by kernel_rfl) (by kernel_rfl) ?_
  exact o_end (by kernel_rfl) (by kernel_rfl)
  refine w_seq ?_
  refine w_reg ⟨[E3, E4, E15, E10, E11, E14, (28, .one .top (.bool (strEq x6.Name_ p2)))], [B5, B16], H⟩ (by kernel_rfl) ?_
  rcases if_inv hF with ⟨h8, hF⟩ | ⟨h8, hF⟩
  refine w_cT (m := .top) h8 (s1 := (⟨[E4, E15], [B5, B16], H⟩ : St)) (by kernel_rfl) (by kernel_rfl) ?_
  refine w_seq ?_
  refine w_reg ⟨[E4, E13], [(6, (m0_types_Field x6))], H⟩ (by kernel_rfl) ?_
  refine w_ret ?_
  cases hF
  exact ⟨_, rfl, (by kernel_rfl)⟩
  refine w_cF (m := .top) h8 (s1 := S22) (by kernel_rfl) (by kernel_rfl) ?_
  refine w_skip ?_
  refine w_reg ⟨[E3, E4, E10, E11, (21, .one .top (.int .i64 (IntKind.wrap .i64 (a4 + 1))))], [B5], H⟩ (by kernel_rfl) ?_
  cases hF
  exact ⟨_, rfl, (by kernel_rfl)⟩
  refine w_cF (m := .top) h5 (s1 := S20) (by kernel_rfl) (by kernel_rfl) ?_
  refine w_exit ?_
  cases hF
  exact ⟨_, rfl, (by kernel_rfl)⟩
  rcases sum2_inv hF with ⟨r9', rfl, hF⟩ | ⟨r9', rfl, hF⟩
  refine w_oe (i := 0) (s := S20) (by kernel_rfl) ?_
  refine e_here ?_
  refine w_seq ?_
  refine w_reg ⟨[E4, (7, .one .top (.int .i64 110))], [B5], H⟩ (by kernel_rfl) ?_
  refine w_ret ?_
  obtain ⟨e0, e1⟩ := some2_inv hF
  subst e0
  subst e1
  exact fin_pure (v := .tup [.agg [(.top, .str ByteArray.empty), (.top, .int .i64 0), (.top, .int .i64 0)], .one .top (.int .i64 110)]) (by kernel_rfl) (by kernel_rfl) rfl (by kernel_rfl)
  obtain ⟨b11, hy⟩ : ∃ y, y = r9' := ⟨_, rfl⟩
  subst hy
  refine w_or (s := (⟨[E4, E13], [(6, (m0_types_Field b11))], H⟩ : St)) (by kernel_rfl) ?_
  obtain ⟨e0, e1⟩ := some2_inv hF
  subst e0
  subst e1
  exact fin_pure (v := .tup [.agg (m0_types_Field b11), .one .top (.int .i64 0)]) (by kernel_rfl) (by kernel_rfl) rfl (by kernel_rfl)
noncomputable def types_Table_Simple_j1 (j3 : Bool) : Option (Bool) :=
  if j3 = true then (some true)
  else (some false)
noncomputable def types_Table_Simple_j2 (j6 : Bool) : Option (Bool) :=
  types_Table_Simple_j1 j6
noncomputable def types_Table_Simple_j3 (j8 : Bool) : Option (Bool) :=
  types_Table_Simple_j2 j8
noncomputable def types_Table_Simple_j4 (j10 : Bool) : Option (Bool) :=
  types_Table_Simple_j3 j10
noncomputable def types_Table_Simple (H : Heap) (p0 : Ptr) (p1 : Int) : Option (Bool) :=
  bind1 (types_Table_kind H p0 p1) fun r1 =>
  if (r1 == 1) = true then (types_Table_Simple_j1 (r1 == 1))
  else (if (r1 == 2) = true then (types_Table_Simple_j2 (r1 == 2))
  else (if (r1 == 3) = true then (types_Table_Simple_j3 (r1 == 3))
  else (if (r1 == 4) = true then (types_Table_Simple_j4 (r1 == 4))
  else (types_Table_Simple_j4 (r1 == 7)))))
theorem ok_types_Table_Simple (H : Heap) {p0 : Ptr} {p1 : Int} {ra : Bool} (hF : types_Table_Simple H p0 p1 = some ra) : evS X 35 [.one .top (Ptr.av p0), .one .top (.int .i64 p1)] H = some (.one .top (.bool ra), H) := by
  let E1 : Ptr → Nat × TV := fun z0 => (0, .one .top (Ptr.av z0))
  let E2 : Nat × TV := (1, .one .top (.int .i64 p1))
  let E4 : Ptr → Nat × TV := fun z0 => (5, .one .top (Ptr.av z0))
  let E5 : Nat × TV := (6, .one .top (.int .i64 p1))
  let S6 : Ptr → St := fun z0 => ⟨[(E1 z0), E2], [], H⟩
  let S8 : Ptr → St := fun z0 => ⟨[(E1 z0), E2, (E4 z0), E5], [], H⟩
  refine w_fun Try.func35 rfl (by kernel_rfl) true (by kernel_rfl) (s0 := (S6 p0)) (by kernel_rfl) ?_
  unfold types_Table_Simple at hF
  refine w_seq ?_
  refine w_reg (S6 p0) (by generalize p0 = qp0; cases qp0 <;> kernel_rfl) ?_
  refine w_seq ?_
  refine w_seq ?_
  obtain ⟨r1, c2, hF⟩ := bind1_inv hF
  let E3 : Nat × TV := (7, .one .top (.int .i64 r1))
  let S7 : St := ⟨[E3], [], H⟩
  refine w_regO S7 ?_ ?_
  refine o_run 2 (S8 p0) (by kernel_rfl) (by generalize p0 = qp0; cases qp0 <;> kernel_rfl) ?_
  refine o_one ⟨[(E1 p0), E2, (E4 p0), E5, E3], [], H⟩ (st_call (d := (some 7)) (fz := false) (pure := true) (own := false) (S8 p0) (ok_types_Table_kind H c2) (by generalize p0 = qp0; cases qp0 <;> kernel_rfl) (by generalize p0 = qp0; cases qp0 <;> kernel_rfl)) ?_
  exact o_end (by kernel_rfl) (by kernel_rfl)
  refine w_block ?_
  refine w_seq ?_
  refine w_seq ?_
  refine w_reg ⟨[E3, (8, .one .top (.bool (r1 == 1)))], [], H⟩ (by kernel_rfl) ?_
  refine w_join (α := (Bool)) (fun x => (⟨[(8, .one .top (.bool x))], [], H⟩ : St)) (fun x => types_Table_Simple_j1 x = some ra) ?_ ?_
  rintro j3 hF
  replace hF : types_Table_Simple_j1 j3 = some ra := hF
  unfold types_Table_Simple_j1 at hF
  rcases if_inv hF with ⟨h4, hF⟩ | ⟨h4, hF⟩
  refine w_cT (m := .top) h4 (s1 := (⟨[], [], H⟩ : St)) (by kernel_rfl) (by kernel_rfl) ?_
  refine w_seq ?_
  refine w_reg ⟨[(4, .one .top (.bool true))], [], H⟩ (by kernel_rfl) ?_
  refine w_ret ?_
  obtain e0 := some1_inv hF
  subst e0
  exact fin_pure (v := .one .top (.bool true)) (by kernel_rfl) (by kernel_rfl) rfl (by kernel_rfl)
  refine w_cF (m := .top) h4 (s1 := (⟨[], [], H⟩ : St)) (by kernel_rfl) (by kernel_rfl) ?_
  refine w_skip ?_
  refine w_seq ?_
  refine w_reg ⟨[(4, .one .top (.bool false))], [], H⟩ (by kernel_rfl) ?_
  refine w_ret ?_
  obtain e0 := some1_inv hF
  subst e0
  exact fin_pure (v := .one .top (.bool false)) (by kernel_rfl) (by kernel_rfl) rfl (by kernel_rfl)
  rcases if_inv hF with ⟨h5, hF⟩ | ⟨h5, hF⟩
  refine w_cT (m := .top) h5 (s1 := (⟨[(8, .one .top (.bool (r1 == 1)))], [], H⟩ : St)) (by kernel_rfl) (by kernel_rfl) ?_
  refine w_skip ?_
  exact ⟨(r1 == 1), hF, (by kernel_rfl)⟩
  refine w_cF (m := .top) h5 (s1 := S7) (by kernel_rfl) (by kernel_rfl) ?_
  refine w_seq ?_
  refine w_reg ⟨[E3, (8, .one .top (.bool (r1 == 2)))], [], H⟩ (by kernel_rfl) ?_
  refine w_join (α := (Bool)) (fun x => (⟨[(8, .one .top (.bool x))], [], H⟩ : St)) (fun x => types_Table_Simple_j2 x = some ra) ?_ ?_
  rintro j6 hF
  replace hF : types_Table_Simple_j2 j6 = some ra := hF
  unfold types_Table_Simple_j2 at hF
  exact ⟨j6, hF, (by kernel_rfl)⟩
  rcases if_inv hF with ⟨h7, hF⟩ | ⟨h7, hF⟩
  refine w_cT (m := .top) h7 (s1 := (⟨[(8, .one .top (.bool (r1 == 2)))], [], H⟩ : St)) (by kernel_rfl) (by kernel_rfl) ?_
  refine w_skip ?_
  exact ⟨(r1 == 2), hF, (by kernel_rfl)⟩
  refine w_cF (m := .top) h7 (s1 := S7) (by kernel_rfl) (by kernel_rfl) ?_
  refine w_seq ?_
  refine w_reg ⟨[E3, (8, .one .top (.bool (r1 == 3)))], [], H⟩ (by kernel_rfl) ?_
  refine w_join (α := (Bool)) (fun x => (⟨[(8, .one .top (.bool x))], [], H⟩ : St)) (fun x => types_Table_Simple_j3 x = some ra) ?_ ?_
  rintro j8 hF
  replace hF : types_Table_Simple_j3 j8 = some ra := hF
  unfold types_Table_Simple_j3 at hF
  exact ⟨j8, hF, (by kernel_rfl)⟩
  rcases if_inv hF with ⟨h9, hF⟩ | ⟨h9, hF⟩
  refine w_cT (m := .top) h9 (s1 := (⟨[(8, .one .top (.bool (r1 == 3)))], [], H⟩ : St)) (by kernel_rfl) (by kernel_rfl) ?_
  refine w_skip ?_
  exact ⟨(r1 == 3), hF, (by kernel_rfl)⟩
  refine w_cF (m := .top) h9 (s1 := S7) (by kernel_rfl) (by kernel_rfl) ?_
  refine w_seq ?_
  refine w_reg ⟨[E3, (8, .one .top (.bool (r1 == 4)))], [], H⟩ (by kernel_rfl) ?_
  refine w_join (α := (Bool)) (fun x => (⟨[(8, .one .top (.bool x))], [], H⟩ : St)) (fun x => types_Table_Simple_j4 x = some ra) ?_ ?_
  rintro j10 hF
  replace hF : types_Table_Simple_j4 j10 = some ra := hF
  unfold types_Table_Simple_j4 at hF
  exact ⟨j10, hF, (by kernel_rfl)⟩
  rcases if_inv hF with ⟨h11, hF⟩ | ⟨h11, hF⟩
  refine w_cT (m := .top) h11 (s1 := (⟨[(8, .one .top (.bool (r1 == 4)))], [], H⟩ : St)) (by kernel_rfl) (by kernel_rfl) ?_
  refine w_skip ?_
  exact ⟨(r1 == 4), hF, (by kernel_rfl)⟩
  refine w_cF (m := .top) h11 (s1 := S7) (by kernel_rfl) (by kernel_rfl) ?_
  refine w_reg ⟨[(8, .one .top (.bool (r1 == 7)))], [], H⟩ (by kernel_rfl) ?_
  exact ⟨(r1 == 7), hF, (by kernel_rfl)⟩
noncomputable def ref09_Simple  (p0 : (List T_ref09_Type)) (p1 : Int) : Option (Bool) :=
  bind1 (ref09_Get p0 p1) fun r1 =>
  some (if (decide (r1.Kind_ ≥ 1)) = true then ((decide (r1.Kind_ ≤ 4)) || (r1.Kind_ == 7)) else (r1.Kind_ == 7))
theorem ok_ref09_Simple (H : Heap) {p0 : (List T_ref09_Type)} {p1 : Int} {ra : Bool} (hF : ref09_Simple p0 p1 = some ra) : evS X 36 [.one (.own 0) (.sl 6 (List.map e_ref09_Type p0)), .one .top (.int .i64 p1)] H = some (.one .top (.bool ra), H) := by
  let E1 : Nat × TV := (0, .one (.own 0) (.sl 6 (List.map e_ref09_Type p0)))
  let E2 : Nat × TV := (1, .one .top (.int .i64 p1))
  let E4 : Nat × TV := (6, .one (.own 0) (.sl 6 (List.map e_ref09_Type p0)))
  let E5 : Nat × TV := (7, .one .top (.int .i64 p1))
  let E7 : Nat × TV := (11, .one .top (.bool true))
  let E8 : Nat × TV := (12, .one .top (.bool true))
  let S14 : St := ⟨[E1, E2, E4, E5], [], H⟩
  refine w_fun Try.func36 rfl (by kernel_rfl) true (by kernel_rfl) (s0 := (⟨[E1, E2], [], H⟩ : St)) (by kernel_rfl) ?_
  unfold ref09_Simple at hF
  refine w_seq ?_
  refine w_reg ⟨[E1, E2], [], H⟩ (by kernel_rfl) ?_
  refine w_seq ?_
  obtain ⟨r1, c2, hF⟩ := bind1_inv hF
  let E3 : Nat × TV := (5, .one .top (.int .i64 r1.Kind_))
  let E6 : Nat × TV := (10, .one .top (.int .i64 r1.Kind_))
  let E9 : Nat × TV := (13, .one .top (.int .i64 r1.Kind_))
  let E10 : Nat × TV := (4, .one .top (.bool (r1.Kind_ == 7)))
  let E11 : Nat × TV := (17, .one .top (.int .i64 r1.Kind_))
  let E12 : Nat × TV := (18, .one .top (.bool (r1.Kind_ == 7)))
  let E13 : Nat × TV := (19, .one .top (.bool (r1.Kind_ == 7)))
  refine w_regO ⟨[E3], [], H⟩ ?_ ?_
  refine o_run 2 S14 (by kernel_rfl) (by kernel_rfl) ?_
  refine o_one ⟨[E1, E2, E4, E5, (8, .agg (m0_ref09_Type r1))], [], H⟩ (st_call (d := (some 8)) (fz := false) (pure := true) (own := false) S14 (ok_ref09_Get H c2) (by kernel_rfl) (by kernel_rfl)) ?_
  refine o_run 2 ⟨[E1, E2, E3, E4, E5, (8, .agg (m0_ref09_Type r1)), (9, .one .top (.int .i64 r1.Kind_))], [], H⟩ (by kernel_rfl) (by kernel_rfl) ?_
  exact o_end (by kernel_rfl) (by kernel_rfl)
  refine w_seq ?_
  refine w_regO ⟨[(4, .one .top (.bool (if (decide (r1.Kind_ ≥ 1)) = true then ((decide (r1.Kind_ ≤ 4)) || (r1.Kind_ == 7)) else (r1.Kind_ == 7))))], [], H⟩ ?_ ?_
  refine o_run 3 ⟨[E3, E6, (11, .one .top (.bool (decide (r1.Kind_ ≥ 1)))), (12, .one .top (.bool (decide (r1.Kind_ ≥ 1))))], [], H⟩ (by kernel_rfl) (by kernel_rfl) ?_
  rcases bool_cases (decide (r1.Kind_ ≥ 1)) with h3 | h3
  refine o_eq (congrArg (fun q => (⟨[E3, E6, (11, .one .top (.bool q)), (12, .one .top (.bool q))], [], H⟩ : St)) h3) ?_
  refine o_run 4 ⟨[E3, E6, E7, E8, E9, (14, .one .top (.bool (decide (r1.Kind_ ≤ 4)))), (15, .one .top (.bool (decide (r1.Kind_ ≤ 4)))), (16, .one .top (.bool (decide (r1.Kind_ ≤ 4))))], [], H⟩ (by kernel_rfl) (by kernel_rfl) ?_
  rcases bool_cases (decide (r1.Kind_ ≤ 4)) with h4 | h4
  refine o_eq (congrArg (fun q => (⟨[E3, E6, E7, E8, E9, (14, .one .top (.bool q)), (15, .one .top (.bool q)), (16, .one .top (.bool q))], [], H⟩ : St)) h4) ?_
  refine o_run 4 ⟨[(4, .one .top (.bool true)), E3, E6, E7, E8, E9, (14, .one .top (.bool true)), (15, .one .top (.bool true)), (16, .one .top (.bool true)), (17, .tup []), (18, .tup []), (19, .one .top (.bool true))], [], H⟩ (by kernel_rfl) (by kernel_rfl) ?_
  refine o_eq2 (congrArg (fun q0 => (⟨[(4, .one .top (.bool q0))], [], H⟩ : St)) (show true = (if (decide (r1.Kind_ ≥ 1)) = true then ((decide (r1.Kind_ ≤ 4)) || (r1.Kind_ == 7)) else (r1.Kind_ == 7)) by simp [h3, h4])) ?_
  exact o_end (by kernel_rfl) (by kernel_rfl)
  refine o_eq (congrArg (fun q => (⟨[E3, E6, E7, E8, E9, (14, .one .top (.bool q)), (15, .one .top (.bool q)), (16, .one .top (.bool q))], [], H⟩ : St)) h4) ?_
  refine o_run 4 ⟨[E10, E3, E6, E7, E8, E9, (14, .one .top (.bool false)), (15, .one .top (.bool false)), (16, .one .top (.bool false)), E11, E12, E13], [], H⟩ (by kernel_rfl) (by kernel_rfl) ?_
  refine o_eq2 (congrArg (fun q0 => (⟨[(4, .one .top (.bool q0))], [], H⟩ : St)) (show (r1.Kind_ == 7) = (if (decide (r1.Kind_ ≥ 1)) = true then ((decide (r1.Kind_ ≤ 4)) || (r1.Kind_ == 7)) else (r1.Kind_ == 7)) by simp [h3, h4])) ?_
  exact o_end (by kernel_rfl) (by kernel_rfl)
  refine o_eq (congrArg (fun q => (⟨[E3, E6, (11, .one .top (.bool q)), (12, .one .top (.bool q))], [], H⟩ : St)) h3) ?_
  refine o_run 8 ⟨[E10, E3, E6, (11, .one .top (.bool false)), (12, .one .top (.bool false)), (13, .tup []), (14, .tup []), (15, .one .top (.bool false)), (16, .one .top (.bool false)), E11, E12, E13], [], H⟩ (by kernel_rfl) (by kernel_rfl) ?_
  refine o_eq2 (congrArg (fun q0 => (⟨[(4, .one .top (.bool q0))], [], H⟩ : St)) (show (r1.Kind_ == 7) = (if (decide (r1.Kind_ ≥ 1)) = true then ((decide (r1.Kind_ ≤ 4)) || (r1.Kind_ == 7)) else (r1.Kind_ == 7)) by simp [h3])) ?_
  exact o_end (by kernel_rfl) (by kernel_rfl)
  refine w_ret ?_
  obtain e0 := some1_inv hF
  subst e0
  exact fin_pure (v := .one .top (.bool (if (decide (r1.Kind_ ≥ 1)) = true then ((decide (r1.Kind_ ≤ 4)) || (r1.Kind_ == 7)) else (r1.Kind_ == 7)))) (by kernel_rfl) (by kernel_rfl) rfl (by kernel_rfl)
end Go.Proofs.Abs
